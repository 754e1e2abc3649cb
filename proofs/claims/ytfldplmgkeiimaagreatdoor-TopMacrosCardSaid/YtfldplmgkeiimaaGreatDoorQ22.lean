/- Lemmas. -/
import Derived.Test.YtfldplmgkeiimaaGreatDoorQ21
set_option linter.all false
set_option maxRecDepth 100000
set_option maxHeartbeats 12800000
namespace Go.Proofs.YtfldplmgkeiimaaGreatDoor
abbrev UM:=@IntKind.wrap_u64
abbrev LG:=@Proofs.Tryz.func294
abbrev LH:=@Proofs.Tryz.ntmps294
abbrev FD:=@Proofs.Tryz.results225
namespace c4
open Go.RowKit dH
open bS (C eg)
open gT (kS iX eW fG)
abbrev nm:TypeId:=268
abbrev nQ(b:cJ)(iP cq:ada)(r:Int):Array Value:= #[I b.k,I b.a.1,I b.a.2,I b.b.1,I b.b.2,I b.c.1,I b.c.2,I b.r,iP,cq,I r]
abbrev UN:Value:=.agg #[I 0,I 0,I 0,I 0,I 0,I 0,I 0,I 0,J 0,J 0,I 0]
def tP(w:aeo)(r:Except Nat (dK×Int))(e:Ending)(w':aeo):Prop:=Below w.heap.size w w'∧match r with
 |.error k=>k≠0∧e=ab (.tuple #[UN,I (k:Int)])
 |.ok x=>∃(pl:Ja) (cl:Nat) (pp:Ja) (cp:Nat),e=ab (.tuple #[.agg (nQ x.1.b (ad pl x.1.b.l.length cl) (ad pp x.1.p.len cp) x.2),I 0])∧dv (fun k=>w.heap.size≤k) w' pl cl pp cp x.1
variable{w w' x ck:aeo}
theorem tP.get{x:dK×Int}{e:Ending}(h:tP w (.ok x) e w'):ao w w w'∧∃(pl:Ja) (cl:Nat) (pp:Ja) (cp:Nat),e=ab (.tuple #[.agg (nQ x.1.b (ad pl x.1.b.l.length cl) (ad pp x.1.p.len cp) x.2),I 0])∧dv (fun k=>w.heap.size≤k) w' pl cl pp cp x.1:=h
theorem tP.no{k:Nat}{e:Ending}(h:tP w (.error k) e w'):ao w w w'∧k≠0∧e=ab (.tuple #[UN,I (k:Int)]):=h
def FE(w0 w:aeo)(bF:au)(da:List Int)(nq:Ja)(bA:Nat)(u:Int)(ms:List jz):Prop:=∀(Z:aeo) (eK:ada) (bD:aev),ao w w Z→Z.ownsRow w0.heap.size qK 2 eK ms.length bD→vf w0 ms bD→ao w0 w0 Z→Calls Tryz.prog 142 #[aa ⟨bF.toArray⟩,ad nq da.length bA,I u,eK] Z (tP Z (j9 bF da u ms))
variable{P D b:Nat}
theorem gr.aoS{w0:aeo}{R:afp}{m:Nat}{L:rp}{fu:Int}{cv ov:ada}{cx ox:aev}{p:cH}{X bV:aeo}{ap:Int→Option ks}(h:gr w0 P R m L fu cv ov cx ox p X)(ax:aQ (fun b=>b≠m) X bV)(hm:rn R bV m ap):gr w0 P R m L fu cv ov cx ox {p with jA:=ap} bV:=by
 obtain⟨es,Fb,tI⟩:=h.mp.map;have hR:∀k,R k→k≠m:=fun k ax=>(h.mH k ax).T3;have Ig:∀{e:aai} {bG n:Nat} {v:ada} {xs:aev},X.ownsRow w0.heap.size e bG v n xs→∀k,v.ownBlock=some k→k≠m:=by intro e bG n v xs hr k ax;obtain⟨_,_,c,hc⟩:=o8 hr ax;exact A' hc tI
 exact {
  pl:=ax.get (A' h.pl tI) h.pl
  mp:=hm
  rq:=h.rq
  gG:=mF h.gG ax (Ig h.gG)
  ni:=h.ni.keep ax hR fun k hm=>by obtain⟨_,_,c,hc⟩:=h.ni.Fa k hm;exact A' hc tI
  zH:=h.zH
  Ba:=h.Ba
  bF:=h.bF.keep ax hR fun k cur t aJ _=>A' aJ tI
  aB:=mF h.aB ax (Ig h.aB)
  tH:=h.tH.keep (ax.mono fun k _ ax=>hR k ax)
  hC:=mF h.hC ax (Ig h.hC)
  yd:=h.yd
  nN:=fun k Lj=>⟨(h.nN k Lj).1,jN (h.nN k Lj).2 ax.size⟩
  mH:=h.mH
  ye:=h.ye
  zI:=h.zI
  aZ:=h.aZ.trans (ax.below _ h.aZ.size fun k ax e=>by have:=h.zI;omega)}
variable{u:Int}
theorem aoU{da:List Int}{ms:List jz}{x:dK×Int}(h:j9 [67] da u ms=.ok x):da.length=1∨da.length=2:=by
 unfold j9 at h;rw[a8 (.inl rfl)] at h;simp only[sZ] at h;split at h
 ·cases h
 ·omega
theorem acY{cZ:aeo}{o:Obj}(ay:Below (ck.alloc o).drew.heap.size (ck.alloc o).drew cZ):cZ.heap[ck.heap.size]?=some o:=aU (show (ck.alloc o).drew.heap[ck.heap.size]?=some o from cd ck o) ay
abbrev pK(P D:Nat)(u:Int)(eK sA c7:ada)(ck x:aeo):Prop:=x.cell? ⟨P,0,none⟩=some (I u)∧ak x P 8 eK∧ak x D 5 sA∧ak x D 10 c7∧ao ck ck x
variable{eK sA c7:ada}
theorem yn{v:aeo}(ay:ao v v x)(h:pK P D u eK sA c7 ck v):pK P D u eK sA c7 ck x:=⟨bP ay h.1,bP ay h.2.1,bP ay h.2.2.1,bP ay h.2.2.2.1,h.2.2.2.2.trans (ay.mono h.2.2.2.2.size)⟩
theorem acZ{v:aeo}(h:pK P D u eK sA c7 ck v)(o:Obj):pK P D u eK sA c7 ck (v.alloc o):=yn (a' _ _) h
theorem ac0(hw:ao w w ck)(h:pK P D u eK sA c7 ck x):ao w w x:=hw.trans (h.2.2.2.2.mono hw.size)
theorem yo(hv:P<ck.heap.size)(cb:D<ck.heap.size)(h:pK P D u eK sA c7 ck x)(i:Nat)(v:ada):pK P D u eK sA c7 ck (x.setCell (aj ck.heap.size i) v):=by
 have key:∀k j y,k<ck.heap.size→ak x k j y→(x.setCell (aj ck.heap.size i) v).cell? ⟨k,j,none⟩=some y:=by intro k j y ax hy;have e:(x.setCell (aj ck.heap.size i) v).heap[k]?=x.heap[k]?:=uo _ _ _ _ (by show k≠ck.heap.size;omega);simp only[World.cell?,e] at hy⊢;exact hy
 exact⟨key _ _ _ hv h.1,key _ _ _ hv h.2.1,key _ _ _ cb h.2.2.1,key _ _ _ cb h.2.2.2.1,h.2.2.2.2.setCell (p:=⟨ck.heap.size,i,none⟩) (bx _) _⟩
theorem ac1(hv:P<ck.heap.size)(cb:D<ck.heap.size)(h:pK P D u eK sA c7 ck x)(aD aG jL lN tJ Ln Lo Lp Lq AZ Lr:ada):pK P D u eK sA c7 ck (((((((((((x.setCell (aj ck.heap.size 0) aD).setCell (aj ck.heap.size 1) aG).setCell (aj ck.heap.size 2) jL).setCell (aj ck.heap.size 3) lN).setCell (aj ck.heap.size 4) tJ).setCell (aj ck.heap.size 5) Ln).setCell (aj ck.heap.size 6) Lo).setCell (aj ck.heap.size 7) Lp).setCell (aj ck.heap.size 8) Lq).setCell (aj ck.heap.size 9) AZ).setCell (aj ck.heap.size 10) Lr):=
 yo hv cb (yo hv cb (yo hv cb (yo hv cb (yo hv cb (yo hv cb (yo hv cb (yo hv cb (yo hv cb (yo hv cb (yo hv cb h _ _) _ _) _ _) _ _) _ _) _ _) _ _) _ _) _ _) _ _) _ _
theorem aoV{S:afp}(ay:¬S b)(v0 v1 v2 v3 v4 v5 v6 db c8 v9 v10:ada):aQ S w (((((((((((w.setCell (aj b 0) v0).setCell (aj b 1) v1).setCell (aj b 2) v2).setCell (aj b 3) v3).setCell (aj b 4) v4).setCell (aj b 5) v5).setCell (aj b 6) v6).setCell (aj b 7) db).setCell (aj b 8) c8).setCell (aj b 9) v9).setCell (aj b 10) v10):=((((((((((aQ.set (a:=⟨b,0,none⟩) ay v0).trans (aQ.set (a:=⟨b,1,none⟩) ay v1)).trans (aQ.set (a:=⟨b,2,none⟩) ay v2)).trans (aQ.set (a:=⟨b,3,none⟩) ay v3)).trans (aQ.set (a:=⟨b,4,none⟩) ay v4)).trans (aQ.set (a:=⟨b,5,none⟩) ay v5)).trans (aQ.set (a:=⟨b,6,none⟩) ay v6)).trans (aQ.set (a:=⟨b,7,none⟩) ay db)).trans (aQ.set (a:=⟨b,8,none⟩) ay c8)).trans (aQ.set (a:=⟨b,9,none⟩) ay v9)).trans (aQ.set (a:=⟨b,10,none⟩) ay v10)
theorem aoW{z0 z1 z2 z3 z4 z5 hZ hO ib z9 kU:ada}{t:aai}(h:an w b (#[z0,z1,z2,z3,z4,z5,hZ,hO,ib,z9,kU]) t)(v0 v1 v2 v3 v4 v5 v6 db c8 v9 v10:ada):(((((((((((w.setCell (aj b 0) v0).setCell (aj b 1) v1).setCell (aj b 2) v2).setCell (aj b 3) v3).setCell (aj b 4) v4).setCell (aj b 5) v5).setCell (aj b 6) v6).setCell (aj b 7) db).setCell (aj b 8) c8).setCell (aj b 9) v9).setCell (aj b 10) v10).heap[b]?=some (.cells #[v0,v1,v2,v3,v4,v5,v6,db,c8,v9,v10] t):=by have aT:(w.setCell (aj b 0) v0).heap[b]?=some (.cells #[v0,z1,z2,z3,z4,z5,hZ,hO,ib,z9,kU] t):=dL (k:=b) (i:=0) v0 h;have av:((w.setCell (aj b 0) v0).setCell (aj b 1) v1).heap[b]?=some (.cells #[v0,v1,z2,z3,z4,z5,hZ,hO,ib,z9,kU] t):=dL (k:=b) (i:=1) v1 aT;have az:(((w.setCell (aj b 0) v0).setCell (aj b 1) v1).setCell (aj b 2) v2).heap[b]?=some (.cells #[v0,v1,v2,z3,z4,z5,hZ,hO,ib,z9,kU] t):=dL (k:=b) (i:=2) v2 av;have aF:((((w.setCell (aj b 0) v0).setCell (aj b 1) v1).setCell (aj b 2) v2).setCell (aj b 3) v3).heap[b]?=some (.cells #[v0,v1,v2,v3,z4,z5,hZ,hO,ib,z9,kU] t):=dL (k:=b) (i:=3) v3 az;have bk:(((((w.setCell (aj b 0) v0).setCell (aj b 1) v1).setCell (aj b 2) v2).setCell (aj b 3) v3).setCell (aj b 4) v4).heap[b]?=some (.cells #[v0,v1,v2,v3,v4,z5,hZ,hO,ib,z9,kU] t):=dL (k:=b) (i:=4) v4 aF;have b9:((((((w.setCell (aj b 0) v0).setCell (aj b 1) v1).setCell (aj b 2) v2).setCell (aj b 3) v3).setCell (aj b 4) v4).setCell (aj b 5) v5).heap[b]?=some (.cells #[v0,v1,v2,v3,v4,v5,hZ,hO,ib,z9,kU] t):=dL (k:=b) (i:=5) v5 bk;have cW:(((((((w.setCell (aj b 0) v0).setCell (aj b 1) v1).setCell (aj b 2) v2).setCell (aj b 3) v3).setCell (aj b 4) v4).setCell (aj b 5) v5).setCell (aj b 6) v6).heap[b]?=some (.cells #[v0,v1,v2,v3,v4,v5,v6,hO,ib,z9,kU] t):=dL (k:=b) (i:=6) v6 b9;have eN:((((((((w.setCell (aj b 0) v0).setCell (aj b 1) v1).setCell (aj b 2) v2).setCell (aj b 3) v3).setCell (aj b 4) v4).setCell (aj b 5) v5).setCell (aj b 6) v6).setCell (aj b 7) db).heap[b]?=some (.cells #[v0,v1,v2,v3,v4,v5,v6,db,ib,z9,kU] t):=dL (k:=b) (i:=7) db cW;have ff:(((((((((w.setCell (aj b 0) v0).setCell (aj b 1) v1).setCell (aj b 2) v2).setCell (aj b 3) v3).setCell (aj b 4) v4).setCell (aj b 5) v5).setCell (aj b 6) v6).setCell (aj b 7) db).setCell (aj b 8) c8).heap[b]?=some (.cells #[v0,v1,v2,v3,v4,v5,v6,db,c8,z9,kU] t):=dL (k:=b) (i:=8) c8 eN;have hJ:((((((((((w.setCell (aj b 0) v0).setCell (aj b 1) v1).setCell (aj b 2) v2).setCell (aj b 3) v3).setCell (aj b 4) v4).setCell (aj b 5) v5).setCell (aj b 6) v6).setCell (aj b 7) db).setCell (aj b 8) c8).setCell (aj b 9) v9).heap[b]?=some (.cells #[v0,v1,v2,v3,v4,v5,v6,db,c8,v9,kU] t):=dL (k:=b) (i:=9) v9 ff;have Ab:(((((((((((w.setCell (aj b 0) v0).setCell (aj b 1) v1).setCell (aj b 2) v2).setCell (aj b 3) v3).setCell (aj b 4) v4).setCell (aj b 5) v5).setCell (aj b 6) v6).setCell (aj b 7) db).setCell (aj b 8) c8).setCell (aj b 9) v9).setCell (aj b 10) v10).heap[b]?=some (.cells #[v0,v1,v2,v3,v4,v5,v6,db,c8,v9,v10] t):=dL (k:=b) (i:=10) v10 hJ;exact Ab
def UO(p:cH)(cn:Int)(bF:au)(da:List Int):Except Nat (dK×Int)→Except Nat cH
 |.error e=>.error e
 |.ok (s,r)=>.ok {p with jA:=fun j=>if j=cn then some ⟨s,r,decide (bF=[67])&&(decide (da.length=1)|| decide (da.getD 1 0=0)),false,[]⟩ else p.jA j}
theorem aoX(w0:aeo)(P:Nat)(p:cH)(B:Nat)(ca cn cQ:Int)(dJ:Bool)(bF ed ee ef bG:au)(da:List Int)(nq:Ja)(bA:Nat)(bv:ada)(w:aeo)(H:af (o' w0 P p w))(Bi:af (eW B w nq da))(gF:da.length≤1000000000)(PI:af (FE w0 w bF da nq bA p.unit p.fB))(uY:p.levels.length≤1000)(res:Except Nat cH)
  (dQ:af ((if p.unit=0∨Ah p cn=true then .error 4 else UO p cn bF da (j9 bF da p.unit p.fB))=res)):
  Calls Tryz.prog 96 #[ah P 0,.agg (iZ ca 10 cn cQ dJ bF ed ee ef bG (ad nq da.length bA) bv)] w fun e w'=>jK w0 P res e w':=by
 have UK:=H;obtain⟨R,m,L,fu,cv,ov,cx,ox,h⟩:=H.out;have H1:=aq h;obtain⟨n,hn⟩:=ar da.length;have bf:=aq hn;obtain⟨u,hu⟩:=ar p.unit;obtain⟨t,bB⟩:=ar (Ah p cn);have Bj:=aq bB;have x8:=aq hu;obtain⟨eK,UP⟩:=ar L.eK;have aoY:=aq UP;have sB:af (∀Z,ao w w Z→Calls Tryz.prog 142 #[aa ⟨bF.toArray⟩,ad nq n bA,I u,eK] Z (tP Z (j9 bF da p.unit p.fB))):=by intro Z eG;have az:=h.below eG;have aF:=PI.out Z L.eK L.bD eG az.hC az.yd az.aZ;rw[hn,hu,UP] at aF;rw[hu];exact aF
 rw[hn];clear h H hn bB UP PI;go_enter Pz,PA;go_upto_region 20 with fail;have c1:=aq (H1.out.below (a' w (ai (iZ ca 10 cn cQ dJ bF ed ee ef bG (ad nq n bA) bv) ic)));have di:af ((w.alloc (ai (iZ ca 10 cn cQ dJ bF ed ee ef bG (ad nq n bA) bv) ic)).heap[w.heap.size]?=some (.cells (iZ ca 10 cn cQ dJ bF ed ee ef bG (ad nq n bA) bv) ic)):=cd _ _;have aO:af (ao w w (w.alloc (ai (iZ ca 10 cn cQ dJ bF ed ee ef bG (ad nq n bA) bv) ic))):=a' _ _;generalize w.alloc (.cells (iZ ca 10 cn cQ dJ bF ed ee ef bG (ad nq n bA) bv) ic)=W at c1 di aO⊢;obtain⟨D,cb⟩:=ar w.heap.size;rw[cb] at di⊢;clear cb;have aN:ak W P 0 (I u):=by rw[←hu];exact cell_of (i:=0) c1.out.pl rfl
 have d2:ak W D 2 (I cn):=cell_of (i:=2) di.out rfl;have qI:af ((if u=0∨t=true then .error 4 else UO p cn bF da (j9 bF da p.unit p.fB))=res):=by show _=_;rw[←dQ.out,hu,Bj.out]
 clear hu dQ;by_cases yl:u=0
 ·subst yl;have hF: .error 4=res:=qI.out;go_wp2_with fail;go_ret;rw[←hF];exact⟨c1.out.aZ,rfl⟩
 have UI:(u==0)=false:=beq_eq_false_iff_ne.2 yl;have sw:af (o' w0 P p W):=UK.out.below aO.out;go_wp2_with fail;go_fit (aoG w0 P p cn W sw uY t Bj);rintro e ck ⟨rfl,er⟩;have dM:=aq (c1.out.below er);have nO:=aq (aU di.out er);have dk:=aq (aO.out.trans (er.mono aO.out.size));clear aN d2 er c1 di aO sw;cases t with
 |true=>
  have hF: .error 4=res:=(by rw[←qI.out,a8 (.inr rfl)]);go_wp2_with fail;go_ret;rw[←hF];exact⟨dM.out.aZ,rfl⟩
 |false=>
  obtain⟨a,ha⟩:=ar (j9 bF da p.unit p.fB);have cc:=aq ha;have eF:af ((UO p cn bF da a)=res):=(by show _=_;rw[←qI.out,aR (by simp[yl]),ha]);rw[ha] at sB;clear ha;have aN:ak ck P 0 (I u):=(by rw[←x8.out];exact cell_of (i:=0) dM.out.pl rfl);have bX:ak ck P 8 eK:=(by rw[←aoY.out];exact cell_of (i:=8) dM.out.pl rfl);have d5:ak ck D 5 (aa ⟨bF.toArray⟩):=cell_of (i:=5) nO.out rfl;have d10:ak ck D 10 (ad nq n bA):=cell_of (i:=10) nO.out rfl;have vh:=lt_of_heap dM.out.pl;have sj:=lt_of_heap nO.out;go_upto_region 22 with fail;cases a with
  |ok x=>
   obtain⟨⟨⟨k,⟨aW,aY⟩,⟨bb,bh⟩,⟨fX,fY⟩,r,l⟩,s⟩,tM⟩:=x;have fo:af (pK P D u eK (aa ⟨bF.toArray⟩) (ad nq n bA) ck ck):=⟨aN,bX,d5,d10,Below.refl _ _⟩;have tm:af (pK P D u eK (aa ⟨bF.toArray⟩) (ad nq n bA) ck ck.drew):=yn (Below.refl _ _).drew fo.out;have LI:af (∀o,pK P D u eK (aa ⟨bF.toArray⟩) (ad nq n bA) ck (ck.alloc o)):=fun o=>yn (a' _ _) fo.out;have LJ:af (∀o,pK P D u eK (aa ⟨bF.toArray⟩) (ad nq n bA) ck (ck.alloc o).drew):=fun o=>yn (a' _ _).drew fo.out;clear aN bX d5 d10;go_cut [8,9] (fun a b gy=>∃(T:Nat) (pl:Ja) (cl:Nat) (pp:Ja) (cp:Nat),a=.pointer (some (aj T 0))∧b=I 0∧af (ao ck ck gy)∧af (an gy T (#[I k,I aW,I aY,I bb,I bh,I fX,I fY,I r,ad pl l.length cl,ad pp s.len cp,I tM]) nm)∧af (dv (fun k=>ck.heap.size≤k) gy pl cl pp cp ⟨⟨k,(aW,aY),(bb,bh),(fX,fY),r,l⟩,s⟩))
   case first=>
    go_region_held3 (fun Z=>pK P D u eK (aa ⟨bF.toArray⟩) (ad nq n bA) ck Z) (first|with_reducible exact fo.out|with_reducible exact tm.out|with_reducible exact LI.out _|with_reducible exact LJ.out _|with_reducible exact yn (by assumption) (by assumption)|with_reducible exact zL.out _|with_reducible exact C8.out _ _ _ _ _ _ _ _ _ _ _|fail) (first|(go_at_call 142;with_reducible refine (sB.out _ (ac0 dk.out (by assumption))).mono ?_;intro e cZ hA;obtain⟨ev,pl,cl,pp,cp,rfl,x3⟩:=hA.get;have qN:=aq (yn ev (by assumption));have zL:=aq (acZ qN.out);have C8:=aq (ac1 vh sj qN.out);(try (have xW:an cZ ck.heap.size (#[I 0,I 0,I 0,I 0,I 0,I 0,I 0,I 0,J 0,J 0,I 0]) nm:=(by with_reducible exact acY ev);obtain⟨z0,z1,z2,z3,z4,z5,hZ,hO,ib,z9,kU⟩:=pE xW;have nR:=fun i=>cR xW i;have PJ:=aq xW;clear xW)))|fail)
    ·go_wp2_with fail;go_meet;exact⟨_,pl,cl,pp,cp,rfl,rfl,qN.out.2.2.2.2.alloc qN.out.2.2.2.2.size _,cd _ _,x3.below (a' _ _)⟩
    ·go_wp2_with fail;go_meet;have aoZ:dv (fun k=>ck.heap.size+1≤k) cZ pl cl pp cp ⟨⟨k,(aW,aY),(bb,bh),(fX,fY),r,l⟩,s⟩:=(x3.mono fun tv _ h=>by have e:(ck.alloc (ai (#[I 0,I 0,I 0,I 0,I 0,I 0,I 0,I 0,J 0,J 0,I 0]) nm)).drew.heap.size=ck.heap.size+1:=qf _;rw[e] at h;exact h);exact⟨_,pl,cl,pp,cp,rfl,rfl,(C8.out _ _ _ _ _ _ _ _ _ _ _).2.2.2.2,aoW PJ.out _ _ _ _ _ _ _ _ _ _ _,(aoZ.keep (aoV (S:=fun k=>ck.heap.size+1≤k) (b:=ck.heap.size) (by omega) _ _ _ _ _ _ _ _ _ _ _)).mono fun tv _ h=>by omega⟩
   case rest=>
    obtain⟨T,pl,cl,pp,cp,rfl,rfl,e4,yh,rr⟩:=hcut;clear fo tm LI LJ sB vh sj;have iY:=aq (dM.out.fresh e4.out);have wh:=aq (aU nO.out e4.out);have yg:af (ao w w wc):=dk.out.trans (e4.out.mono dk.out.size);have nj:af (dv (fun k=>R k∨(ck.heap.size≤k∧k<wc.heap.size)) wc pl cl pp cp ⟨⟨k,(aW,aY),(bb,bh),(fX,fY),r,l⟩,s⟩):=rr.out.lt.mono fun _ _ h=>.inr ⟨h.1,h.2⟩;generalize (fun k=>R k∨(ck.heap.size≤k∧k<wc.heap.size))=axQ at iY nj;obtain⟨rd,nn⟩:=ar (decide (bF=[67])&&(decide (da.length=1)|| decide (da.getD 1 0=0)));have aP:af (.ok {p with jA:=fun j=>if j=cn then some ⟨⟨⟨k,(aW,aY),(bb,bh),(fX,fY),r,l⟩,s⟩,tM,rd,false,[]⟩ else p.jA j}=res):=(by show _=_;rw[←eF.out,←nn];rfl);clear eF;go_upto_region 25 with fail;go_cut [10] (fun a gy=>a=U rd∧wc=gy)
    case first=>
     have d5:ak wc D 5 (aa ⟨bF.toArray⟩):=cell_of (i:=5) wh.out rfl;have d10:ak wc D 10 (ad nq n bA):=cell_of (i:=10) wh.out rfl;by_cases hc:bF=[67]
     ·have UQ:(bF==[67])=true:=(by rw[hc];rfl);have E7:n=1∨n=2:=(by rw[←bf.out];exact aoU (by rw[←hc];exact cc.out));rcases E7 with rfl|rfl
      ·have LK:rd=true:=(by rw[←nn,hc,bf.out];rfl);subst LK;go_wp2_with fail;go_meet;exact⟨rfl,rfl⟩
      ·obtain⟨b,o,cs,aH,_,aJ,gm⟩:=Bi.out (by rw[bf.out];decide);subst aH;have av:=gm 1 (by rw[bf.out];decide);obtain⟨v1,tx⟩:=ar (da[1]'(by rw[bf.out];decide));rw[tx] at av;have aF:=aU aJ yg.out;have PK:ak wc b (o+1) (I v1):=(by simp[World.cell?,aF,av]);have LK:rd=(v1==0):=(by rw[←nn,hc,bf.out,B3,l8 (by rw[bf.out];decide),tx];rfl);subst LK;clear gm aJ av aF tx nn;go_wp2_with fail;go_meet;exact⟨rfl,rfl⟩
     ·have UQ:(bF==[67])=false:=beq_eq_false_iff_ne.2 hc;have LK:rd=false:=(by rw[←nn,eT hc];rfl);subst LK;go_wp2_with fail;go_meet;exact⟨rfl,rfl⟩
    case rest=>
     obtain⟨rfl,rfl⟩:=hcut;have d2:ak wc D 2 (I cn):=cell_of (i:=2) wh.out rfl;have b2:ak wc P 6 (.map (some m)):=cell_of (i:=6) iY.out.pl rfl;obtain⟨t0,t1,t2,t3,t4,t5,t6,t7,t8,t9,t10⟩:=pE yh.out;have qg:=aq (iY.out.below (Below.refl _ _).drew);obtain⟨Cg,OD,tI,AU⟩:=rn.ane (a:=⟨⟨⟨k,(aW,aY),(bb,bh),(fX,fY),r,l⟩,s⟩,tM,rd,false,[]⟩) (v:=(.agg #[I k,I aW,I aY,I bb,I bh,I fX,I fY,I r,ad pl l.length cl,ad pp s.len cp,I tM,U rd,U false,J 0])) qg.out.mp (fun h=>(qg.out.mH _ h).T3 rfl) cn ⟨pl,cl,pp,cp,none,0,rfl,nj.out.below (Below.refl _ _).drew,.nil _ _ _,bx _⟩;have sC:=aq tI;have lO:=aq AU;clear tI AU nn;go_upto_region 26 with fail;go_region;go_wp2_with fail;go_ret;rw[←aP.out];exact jK.CR rfl (qg.out.aoS lO.out sC.out)
  |error PL=>
   have hF: .error PL=res:=eF.out;have fo:af (pK P D u eK (aa ⟨bF.toArray⟩) (ad nq n bA) ck ck):=⟨aN,bX,d5,d10,Below.refl _ _⟩;have tm:af (pK P D u eK (aa ⟨bF.toArray⟩) (ad nq n bA) ck ck.drew):=yn (Below.refl _ _).drew fo.out;have LI:af (∀o,pK P D u eK (aa ⟨bF.toArray⟩) (ad nq n bA) ck (ck.alloc o)):=fun o=>yn (a' _ _) fo.out;have LJ:af (∀o,pK P D u eK (aa ⟨bF.toArray⟩) (ad nq n bA) ck (ck.alloc o).drew):=fun o=>yn (a' _ _).drew fo.out;clear aN bX d5 d10;go_cut [9] (fun b gy=>b=I PL∧PL≠0∧af (ao ck ck gy))
   case first=>
    go_region_held3 (fun Z=>pK P D u eK (aa ⟨bF.toArray⟩) (ad nq n bA) ck Z) (first|with_reducible exact fo.out|with_reducible exact tm.out|with_reducible exact LI.out _|with_reducible exact LJ.out _|with_reducible exact yn (by assumption) (by assumption)|with_reducible exact zL.out _|with_reducible exact C8.out _ _ _ _ _ _ _ _ _ _ _|fail) (first|(go_at_call 142;with_reducible refine (sB.out _ (ac0 dk.out (by assumption))).mono ?_;intro e cZ hA;obtain⟨ev,kK,rfl⟩:=hA.no;have qN:=aq (yn ev (by assumption));have zL:=aq (acZ qN.out);have C8:=aq (ac1 vh sj qN.out);(try (have xW:an cZ ck.heap.size (#[I 0,I 0,I 0,I 0,I 0,I 0,I 0,I 0,J 0,J 0,I 0]) nm:=(by with_reducible exact acY ev);obtain⟨z0,z1,z2,z3,z4,z5,hZ,hO,ib,z9,kU⟩:=pE xW;have nR:=fun i=>cR xW i;have PJ:=aq xW;clear xW)))|fail)
    ·go_wp2_with fail;go_meet;exact⟨rfl,kK,qN.out.2.2.2.2.alloc qN.out.2.2.2.2.size _⟩
    ·go_wp2_with fail;go_meet;exact⟨rfl,kK,(C8.out _ _ _ _ _ _ _ _ _ _ _).2.2.2.2⟩
   case rest=>
    obtain⟨rfl,axR,e4⟩:=hcut;have PM:((PL:Int) !=0)=true:=(by rw[xf];omega);have iY:=aq (dM.out.below e4.out);clear sB vh sj fo tm LI LJ;go_wp2_with fail;go_ret;rw[←hF];exact⟨iY.out.aZ,rfl⟩
variable{P:aeo→Prop}{w:aeo}{o p q:Obj}{g i j m:Nat}{cs:ajv}{t:aai}{u v x:ada}
theorem LL(k:∀W,W.heap[w.heap.size]?=some o→ao w w W→P W):P (w.alloc o):=k _ (cd _ _) (a' _ _)
theorem UR(k:∀W,W.heap[w.heap.size]?=some o→W.heap[w.heap.size+1]?=some p→ao w w W→P W):P ((w.alloc o).alloc p):=by refine k _ (aU (cd _ _) (a' _ _)) ?_ ((a' _ _).trans ((a' _ _).mono (a' _ _).size));rw[←pz w o];exact cd _ _
theorem aQ.ne(v:ada):aQ (fun k=>k≠g) w (w.setCell (aj g b) v):=aQ.set (a:=⟨g,b,none⟩) (fun h=>h rfl) v
theorem aQ.aZ{B:Nat}{w0:aeo}(h:aQ (fun b=>b≠g) w w')(ay:Below B w0 w)(ba:B≤g)(hs:B≤w.heap.size):Below B w0 w':=ay.trans (h.below B hs fun k ax e=>by omega)
theorem ac2(h:an w g cs t)(k:∀W,an W g (cs.setIfInBounds i v) t→aQ (fun b=>b≠g) w W→P W):P (w.setCell (aj g i) v):=k _ (dL _ h) (aQ.ne _)
theorem ao0(h:an w g cs t)(k:∀W,an W g (cs.setIfInBounds i v) t→aQ (fun b=>b≠g) w W→W.heap.size=w.heap.size→P W):P (w.setCell (aj g i) v):=k _ (dL _ h) (aQ.ne _) (Su _ _ _)
theorem ao1(h:an w g cs t)(k:∀W,an W g ((cs.setIfInBounds i u).setIfInBounds j v) t→aQ (fun b=>b≠g) w W→P W):P ((w.setCell (aj g i) u).setCell (aj g j) v):=k _ (dL _ (dL _ h)) ((aQ.ne _).trans (aQ.ne _))
theorem ao2(h:an w g cs t)(k:∀W,an W g (((cs.setIfInBounds i u).setIfInBounds j v).setIfInBounds m x) t→aQ (fun b=>b≠g) w W→P W):P (((w.setCell (aj g i) u).setCell (aj g j) v).setCell (aj g m) x):=k _ (dL _ (dL _ (dL _ h))) (((aQ.ne _).trans (aQ.ne _)).trans (aQ.ne _))
theorem ac3:∀(vs pre l:aev),vs.length≤l.length→r3 (pre++l).toArray pre.length vs=(pre++vs++l.drop vs.length).toArray
 |[],pre,l,_=>by simp[r3]
 |v::vs,pre,[],h=>absurd h (by simp)
 |v::vs,pre,x::l,h=>by have e:(pre++x::l).toArray.setIfInBounds pre.length v=((pre++[v])++l).toArray:=(by simp);have g:=ac3 vs (pre++[v]) l (by simpa using h);rw[hl] at g;show r3 _ _ _=_;rw[r3,e];exact g.trans (by simp)
theorem ac4{l:aev}(vs:aev)(h:an w g l.toArray t)(aA:vs.length≤l.length)(k:∀W,an W g ((vs++l.drop vs.length).toArray) t→aQ (fun b=>b≠g) w W→W.heap.size=w.heap.size→P W):P (iV w g 0 vs):=by refine k _ ?_ (xK (fun h=>h rfl) vs) (ZD _ _ _ _);rw[Hi vs h];have:=ac3 vs [] l aA;simp only[Jw,rC] at this;rw[this]
theorem ao3{l:aev}(vs:aev)(h:an w g l.toArray t)(aA:vs.length≤l.length)(k:∀W,an W g ((vs++l.drop vs.length).toArray) t→aQ (fun b=>b≠g) w W→P W):P (iV w g 0 vs):=ac4 vs h aA fun W av az _=>k W av az
theorem qi(vs:aev)(h:an w g cs t)(aA:vs.length=cs.size)(k:∀W,an W g vs.toArray t→aQ (fun b=>b≠g) w W→P W):P (iV w g 0 vs):=k _ (oU vs h aA) (xK (fun h=>h rfl) vs)
def Bk(w:aeo)(b:cJ)(e:Ending)(w':aeo):Prop:=Below w.heap.size w w'∧∃(pl:Ja) (cl:Nat),e=ab (iD b (ad pl b.l.length cl) dr)∧dv (fun k=>w.heap.size≤k) w' pl cl none 0 ⟨b,.nil⟩
theorem Bk.bare{w w':aeo}{b:cJ}(aA:b.l=[])(ay:ao w w w'):Bk w b (ab (iD b dr dr)) w':=⟨ay,none,0,by rw[aA];rfl,.bare _ _ _ _ _ _ _ aA⟩
theorem ao4(r:Int)(w:aeo):Calls Tryz.prog 183 #[I r] w (Bk w (GH r)):=by
 by_cases aT:r=0
 ·subst aT;go_enter Tryz.func183,Tryz.ntmps183;go_wp2_with fail;exact dC (pD rfl _ _ w.heap.size _ _ _ _ rfl (cd w (ai (q6 (GH 0) dr dr) dz)) tz rfl (by kernel_rfl)) rfl (.bare rfl (a' _ _))
 ·have av:(r==0)=false:=beq_eq_false_iff_ne.2 aT;have hc:GH r=k4 (0,0) r:=aR aT;rw[hc];clear hc;go_enter Tryz.func183,Tryz.ntmps183;go_wp2_with fail;exact dC (pD rfl _ _ w.heap.size _ _ _ _ rfl (cd w (ai (q6 (k4 (0,0) r) dr dr) dz)) tz rfl (by kernel_rfl)) rfl (.bare rfl (a' _ _))
theorem ao5(a b:Int)(ha:0≤a∧a≤1000000000)(ay:0≤b∧b≤1000000000)(w:aeo):Calls Tryz.prog 185 #[I a,I b] w (Bk w (GI a b)):=by
 have a1:ae (a-b)=a-b:=cX _ (by omega);have a6:ae (b-a)=b-a:=cX _ (by omega);by_cases av:b<a
 ·have hc:GI a b=DU (b-a,0) (a-b,0) b:=a8 av;rw[hc];clear hc;go_enter Tryz.func185,Tryz.ntmps185;go_wp2_with fail;exact dC (pD rfl _ _ w.heap.size _ _ _ _ rfl (cd w (ai (q6 (DU (b-a,0) (a-b,0) b) dr dr) dz)) tz rfl (by kernel_rfl)) rfl (.bare rfl (a' _ _))
 ·by_cases az:a<b
  ·have hc:GI a b=DU (0,a-b) (0,b-a) a:=(aR av).trans (a8 az);rw[hc];clear hc;go_enter Tryz.func185,Tryz.ntmps185;go_wp2_with fail;exact dC (pD rfl _ _ w.heap.size _ _ _ _ rfl (cd w (ai (q6 (DU (0,a-b) (0,b-a) a) dr dr) dz)) tz rfl (by kernel_rfl)) rfl (.bare rfl (a' _ _))
  ·have hc:GI a b=k4 (0,0) a:=(aR av).trans (aR az);rw[hc];clear hc;go_enter Tryz.func185,Tryz.ntmps185;go_wp2_with fail;exact dC (pD rfl _ _ w.heap.size _ _ _ _ rfl (cd w (ai (q6 (k4 (0,0) a) dr dr) dz)) tz rfl (by kernel_rfl)) rfl (.bare rfl (a' _ _))
theorem ao6(a b:Int)(ha:0≤a∧a≤1000000000)(ay:0≤b∧b≤1000000000)(w:aeo):Calls Tryz.prog 184 #[I a,I b] w (Bk w (Nu a b)):=by
 have a1:ae (-a)= -a:=cX _ (by omega);have a6:ae (-b)= -b:=cX _ (by omega);go_enter Tryz.func184,Tryz.ntmps184;go_wp2_with fail;obtain⟨av,az,aF,ay,_⟩:=zc (w:=w) rfl;refine dC (pD rfl _ _ w.heap.size _ _ _ _ rfl av tz rfl (by kernel_rfl)) rfl ⟨ay,some ⟨w.heap.size+1+1,0,none⟩,1,rfl,⟨⟨show 1≤mo by decide,fun _=>⟨_,0,_,rfl,by omega,aF,?_⟩⟩,.nil _ _ _,bx _,bx _⟩⟩;intro i hi;obtain rfl:i=0:=by have:i<1:=hi;omega
 refine⟨some ⟨w.heap.size+1,0,none⟩,4,rfl,bx _,show 4≤mo by decide,fun _=>⟨_,0,_,rfl,by omega,az,?_⟩⟩;intro i hi;have hi:i<4:=hi;rcases (show i=0∨i=1∨i=2∨i=3 by omega) with rfl|rfl|rfl|rfl<;>exact⟨rfl,rfl⟩
end c4
namespace FF
open Go.RowKit ny Fr
theorem xt{k:IntKind}{a b:Int}(h:a=b):Ending.returned (.int k a)=ab (.int k b):=by rw[h]
theorem R3(w:aeo)(a b:Nat):(w.drewN a).drewN b=w.drewN (a+b):=by simp[World.drewN,xe]
theorem Ii(v:Int)(aT:-9223372036854775808≤v)(av:v≤9223372036854775807)(a:Int)(ha:af ((v.natAbs:Int)=a))(w:aeo):
  Calls Tryz.prog 256 #[I v] w fun e w'=>e=ab (.int .u64 a)∧w'=w:=by
 by_cases hn:v<0
 ·have cc:af (a= -v):=(by show _=_;have:=ha.out;omega);go_enter Tryz.func256,Tryz.ntmps256;go_wp2_with fail;go_ret;exact⟨xt (by rw[cc.out];clear cc ha;simp only[UM];omega),rfl⟩
 ·have cc:af (a=v):=(by show _=_;have:=ha.out;omega);go_enter Tryz.func256,Tryz.ntmps256;go_wp2_with fail;go_ret;exact⟨xt (by rw[cc.out]),rfl⟩
theorem ac5(n m:Nat)(x y g:Int)(hx:x=n)(hy:y=m)(hn:x≤18446744073709551615)(hm:y≤18446744073709551615)(ba:af ((Nat.gcd n m:Int)=g))(w:aeo):
  Calls Tryz.prog 257 #[.int .u64 x,.int .u64 y] w fun e w'=>e=ab (.int .u64 g)∧∃k,w'=w.drewN k:=by
 go_enter Tryz.func257,Tryz.ntmps257;go_wp2_with fail
 go_loopw [0,1] (fun a b wr=>∃(p q:Nat) (k:Nat),(p:Int)≤18446744073709551615∧(q:Int)≤18446744073709551615∧af ((Nat.gcd p q:Int)=g)∧a=.int .u64 p∧b=.int .u64 q∧wr=w.drewN k) (fun _ b _=>(intOf b).toNat)
 case atStart=>exact⟨n,m,0,by omega,by omega,ba,by rw[hx],by rw[hy],by rfl⟩
 case round=>
  obtain⟨p,q,k,hp,aH,e0,rfl,rfl,rfl⟩:=hrel;by_cases ac6:0<(q:Int)
  ·have bn:0<q:=(by omega);have hne:((q:Int)==0)=false:=(by simp;omega);have wL:af ((Nat.gcd q (p%q):Int)=g):=(by show _=_;rw[←e0.out,Nat.gcd_comm p q,Nat.gcd_rec q p,Nat.gcd_comm]);obtain⟨r,hr⟩:∃r:Nat,p%q=r:=⟨_,rfl⟩;have b1:r<q:=(by rw[←hr];exact Nat.mod_lt _ bn);have ao7:(p:Int)%(q:Int)=(r:Int):=(by rw[←hr];rfl);rw[hr] at wL;have GW:af (r<q):=b1;clear hr;go_wp2_with fail;go_region;all_goals (rw[ao7];go_round<;>first|(exact⟨_,_,_,_,_,_,_,_,⟨q,r,k+1,aH,by omega,wL,rfl,rfl,rfl⟩,rfl⟩)|(simp[intOf];omega))
  ·have bN:af ((p:Int)=g):=(by show _=_;obtain rfl:q=0:=(by omega);rw[←e0.out,Nat.gcd_zero_right]);have dq:¬0<q:=(by omega);go_wp2_with fail;go_ret;exact⟨xt bN.out,k,rfl⟩
abbrev pc(n d:Int):Value:=.agg #[I n,I d]
abbrev eO(n d:Int):Obj:=.cells #[I n,I d] 351
def ao8(b:Bool)(w:aeo)(e:Ending)(w':aeo):Prop:=e=ab (U b)∧ao w w w'
theorem US(n d:Int)(b:Bool)(ay:af (B0 n d=b))(w:aeo):
  Calls Tryz.prog 294 #[pc n d] w (ao8 b w):=by
 have LM:af (ao w w (w.alloc (eO n d))):=(Below.refl _ _).alloc (bx _) _;by_cases mc:In n d
 ·obtain⟨av,az,aF,bk⟩:=mc;obtain⟨p,hp⟩:∃p:Nat,n.natAbs=p:=⟨_,rfl⟩;obtain⟨q,aH⟩:∃q:Nat,d.natAbs=q:=⟨_,rfl⟩;obtain⟨g,ba⟩:∃g:Int,(Nat.gcd p q:Int)=g:=⟨_,rfl⟩;have bN:af ((n.natAbs:Int)=(p:Int)):=(by show _=_;rw[hp]);have bd:af ((d.natAbs:Int)=(q:Int)):=(by show _=_;rw[aH]);have nH:(p:Int)≤1073741824:=(by omega);have Bl:(q:Int)≤1073741824:=(by omega);have e0:af ((Nat.gcd p q:Int)=g):=ba
  have aO:af ((g==1)=b):=by
   show _=_;rw[←ay.out];unfold B0;rw[e' (show In n d from⟨av,az,aF,bk⟩),NT,hp,aH,←ba];by_cases av:Nat.gcd p q=1
   ·rw[e' av,av];rfl
   ·rw[eT av];simp only[uO];omega
  clear hp aH ba ay;go_enter LG,LH;go_wp2_with fail
  go_quiet ((first|(go_at_call 256;with_reducible first|exact rX (Ii n (by omega) (by omega) p bN _)|exact rX (Ii d (by omega) (by omega) q bd _))|(go_at_call 257;with_reducible exact Calls.quiet_of (ac5 p q _ _ g rfl rfl (by omega) (by omega) e0 _))))
  go_wp2_with fail;go_ret;exact⟨by show Ending.returned (U (g==1))=_;rw[aO.out],below_drewN LM.out _⟩
 ·have aO:af (b=false):=(by show _=_;rw[←ay.out];unfold B0;rw[eT mc,JW]);clear ay;obtain rfl:=aO.out;by_cases av:d<1
  ·clear mc;go_enter LG,LH;go_wp2_with fail;go_ret;exact⟨rfl,LM.out⟩
  ·by_cases az:1073741824<d
   ·clear mc;go_enter LG,LH;go_wp2_with fail;go_ret;exact⟨rfl,LM.out⟩
   ·by_cases aF:n< -1073741824
    ·clear mc;go_enter LG,LH;go_wp2_with fail;go_ret;exact⟨rfl,LM.out⟩
    ·have bk:1073741824<n:=(by unfold In at mc;omega);clear mc;go_enter LG,LH;go_wp2_with fail;go_ret;exact⟨rfl,LM.out⟩
variable{b:Nat}{w:aeo}
theorem nS{n d:Int}(h:w.heap[b]?=some (eO n d)):(ak w b 0 (I n)∧ak w b 1 (I d))∧w.frozen? ⟨b,0,none⟩=false∧w.frozen? ⟨b,1,none⟩=false:=by refine⟨⟨?_,?_⟩,?_,?_⟩<;>simp[World.cell?,World.frozen?,h]
theorem heap_set{x:aeo}{c:ajv}{t:aai}(h:an x b c t)(o:Nat)(u:ada):(x.setCell (aj b o) u).heap[b]?=some (.cells (c.setIfInBounds o u) t):=by show (Array.modify _ _ _)[b]?=_;rw[Ao,a8 rfl,h];rfl
theorem UU{n d:Int}(h:w.heap[b]?=some (eO n d))(N D:Int):((w.setCell (aj b 0) (I N)).setCell (aj b 1) (I D)).heap[b]?=some (eO N D):=heap_set (heap_set h 0 _) 1 _
theorem Ij(w:aeo)(k:Nat)(N D:Int):∀v,v=((((w.alloc (eO 0 0)).drewN k).setCell (aj w.heap.size 0) (I N)).setCell (aj w.heap.size 1) (I D))→
  (v.heap[w.heap.size]?=some (eO N D)∧ao w w v∧v.heap.size=w.heap.size+1):=by
 rintro v rfl;have aT:((w.alloc (eO 0 0)).drewN k).heap[w.heap.size]?=some (eO 0 0):=by show (w.heap.push _)[w.heap.size]?=_;simp
 refine⟨UU aT N D,?_,by simp[World.setCell]⟩;exact ((below_drewN ((Below.refl _ _).alloc (bx _) _) k).setCell (bx _) _).setCell (bx _) _
theorem PN{v:aeo}{N D:Int}(h:v.heap[w.heap.size]?=some (eO N D)∧ao w w v∧v.heap.size=w.heap.size+1)(o:Obj):
  (v.alloc o).heap[w.heap.size]?=some (eO N D)∧ao w w (v.alloc o):=
 ⟨by rw[xq _ _ _ (by omega),h.1],h.2.1.alloc (by omega) o⟩
def ac7(r:Int×Int×Nat)(w:aeo)(e:Ending)(w':aeo):Prop:=e=ab (.tuple #[pc r.1 r.2.1,I (r.2.2:Int)])∧ao w w w'
theorem PO(n d:Int)(l4:-9223372036854775808≤n)(kg:n≤9223372036854775807)(uv:-9223372036854775808≤d)(hQ:d≤9223372036854775807)(r:Int×Int×Nat)(hr:af (pW n d=r))(w:aeo):
  Calls Tryz.prog 225 #[I n,I d] w (ac7 r w):=by
 by_cases bn:d=0
 ·have bq:af (r=(0,0,10)):=(by show _=_;rw[←hr.out];unfold pW;rw[a8 bn]);subst bn;obtain rfl:=bq.out;clear bq hr;go_enter Tryz.func225,Tryz.ntmps225;go_wp2_with fail;have aP:af ((w.alloc (eO 0 0)).heap[w.heap.size]?=some (eO 0 0)∧ao w w (w.alloc (eO 0 0))):=⟨by show (w.heap.push _)[w.heap.size]?=_;simp,(Below.refl _ _).alloc (bx _) _⟩;generalize (w.alloc (eO 0 0))=et at aP⊢;obtain⟨⟨aN,aL⟩,_⟩:=nS aP.out.1;exact dC (v:=.tuple #[pc 0 0,I 10]) (by simp[results,FD,go_sem,aN,aL]) rfl ⟨rfl,aP.out.2⟩
 ·obtain⟨p,hp⟩:∃p:Nat,n.natAbs=p:=⟨_,rfl⟩;obtain⟨q,aH⟩:∃q:Nat,d.natAbs=q:=⟨_,rfl⟩;have rU:=hr.out;unfold pW at rU;rw[aR bn,hp,aH] at rU;have ac8:0<q:=(by omega);have zB:=aiM p ac8;obtain⟨g,ba⟩:∃g:Nat,Nat.gcd p q=g:=⟨_,rfl⟩;rw[ba] at rU zB;obtain⟨x,hx⟩:∃x:Nat,p/g=x:=⟨_,rfl⟩;obtain⟨y,hy⟩:∃y:Nat,q/g=y:=⟨_,rfl⟩;have c2:af ((p:Int)/(g:Int)=(x:Int)):=(by show _=_;rw[←hx];rfl);have cC:af ((q:Int)/(g:Int)=(y:Int)):=(by show _=_;rw[←hy];rfl);rw[hx,hy] at rU;have axS:x≤p:=(by rw[←hx];exact Nat.div_le_self _ _);have axT:y≤q:=(by rw[←hy];exact Nat.div_le_self _ _);have bN:af ((n.natAbs:Int)=(p:Int)):=(by show _=_;rw[hp]);have bd:af ((d.natAbs:Int)=(q:Int)):=(by show _=_;rw[aH]);have e0:af ((Nat.gcd p q:Int)=(g:Int)):=(by show _=_;rw[ba]);have nH:(p:Int)≤9223372036854775808:=(by omega);have Bl:(q:Int)≤9223372036854775808:=(by omega);have J1:(g:Int)≤9223372036854775808:=(by have:=Nat.le_of_dvd ac8 (Nat.gcd_dvd_right p q);omega);have UW:((g:Int)==0)=false:=(by simp;omega);have bq:=aq rU;clear hr rU hx hy hp aH ba;go_enter Tryz.func225,Tryz.ntmps225;go_wp2_with fail;with_reducible refine (Ii n l4 kg p bN _).mono ?_
  rintro e w' ⟨rfl,rfl⟩;go_wp2_with fail;with_reducible refine (Ii d uv hQ q bd _).mono ?_
  rintro e w' ⟨rfl,rfl⟩;go_wp2_with fail;with_reducible refine (ac5 p q _ _ g rfl rfl (by omega) (by omega) e0 _).mono ?_
  rintro e w' ⟨rfl,k,rfl⟩;go_wp2_with fail
  go_quiet (fail)
  have ac9:IntKind.u64.wrap ((p:Int)/(g:Int))=(x:Int):=(by rw[c2.out,UM];omega);have Km:IntKind.u64.wrap ((q:Int)/(g:Int))=(y:Int):=(by rw[cC.out,UM];omega);rw[ac9,Km,R3];clear ac9 Km;by_cases n9:1073741824<(x:Int)
  ·have lZ:af (r=(0,0,5)):=(by show _=_;rw[←bq.out,a8 (.inl (by omega))]);have aP:Hid _:=Ij w (k+nq) 0 0 _ rfl;clear bq;go_wp2_with fail;generalize ((((w.alloc (eO 0 0)).drewN (k+nq)).setCell (aj w.heap.size 0) (I 0)).setCell (aj w.heap.size 1) (I 0))=et at aP⊢;obtain⟨⟨aN,aL⟩,_⟩:=nS aP.out.1;exact dC (v:=.tuple #[pc 0 0,I 5]) (by simp[results,FD,go_sem,aN,aL]) rfl ⟨by rw[lZ.out];rfl,aP.out.2.1⟩
  ·by_cases Ta:1073741824<(y:Int)
   ·have lZ:af (r=(0,0,5)):=(by show _=_;rw[←bq.out,a8 (.inr (by omega))]);have aP:Hid _:=Ij w (k+nq) 0 0 _ rfl;clear bq;go_wp2_with fail;generalize ((((w.alloc (eO 0 0)).drewN (k+nq)).setCell (aj w.heap.size 0) (I 0)).setCell (aj w.heap.size 1) (I 0))=et at aP⊢;obtain⟨⟨aN,aL⟩,_⟩:=nS aP.out.1;exact dC (v:=.tuple #[pc 0 0,I 5]) (by simp[results,FD,go_sem,aN,aL]) rfl ⟨by rw[lZ.out];rfl,aP.out.2.1⟩
   ·have bm:af (1073741824<x∨1073741824<y→False):=(by show _→_;omega);by_cases hs:n<0
    ·by_cases bB:d<0
     ·have lZ:af (r=((x:Int),(y:Int),0)):=(by show _=_;rw[←bq.out,aR (fun h=>bm.out h),aR (by simp[hs,bB])]);have aP:Hid _:=Ij w (k+nq) (x:Int) (y:Int) _ rfl;clear bq;go_wp2_with fail;generalize ((((w.alloc (eO 0 0)).drewN (k+nq)).setCell (aj w.heap.size 0) (I (x:Int))).setCell (aj w.heap.size 1) (I (y:Int)))=et at aP⊢;have eV:Hid _:=PN aP.out (eO (x:Int) (y:Int));generalize (et.alloc (eO (x:Int) (y:Int)))=WF at eV⊢;obtain⟨⟨aN,aL⟩,_⟩:=nS eV.out.1;exact dC (v:=.tuple #[pc (x:Int) (y:Int),I 0]) (by simp[results,FD,go_sem,aN,aL]) rfl ⟨by rw[lZ.out];rfl,eV.out.2⟩
     ·have lZ:af (r=((-(x:Int)),(y:Int),0)):=(by show _=_;rw[←bq.out,aR (fun h=>bm.out h),a8 (by simp[hs,bB])]);have aP:Hid _:=Ij w (k+nq) (-(x:Int)) (y:Int) _ rfl;clear bq;go_wp2_with fail;generalize ((((w.alloc (eO 0 0)).drewN (k+nq)).setCell (aj w.heap.size 0) (I (-(x:Int)))).setCell (aj w.heap.size 1) (I (y:Int)))=et at aP⊢;have eV:Hid _:=PN aP.out (eO (-(x:Int)) (y:Int));generalize (et.alloc (eO (-(x:Int)) (y:Int)))=WF at eV⊢;obtain⟨⟨aN,aL⟩,_⟩:=nS eV.out.1;exact dC (v:=.tuple #[pc (-(x:Int)) (y:Int),I 0]) (by simp[results,FD,go_sem,aN,aL]) rfl ⟨by rw[lZ.out];rfl,eV.out.2⟩
    ·by_cases bB:d<0
     ·have lZ:af (r=((-(x:Int)),(y:Int),0)):=(by show _=_;rw[←bq.out,aR (fun h=>bm.out h),a8 (by simp[hs,bB])]);have aP:Hid _:=Ij w (k+nq) (-(x:Int)) (y:Int) _ rfl;clear bq;go_wp2_with fail;generalize ((((w.alloc (eO 0 0)).drewN (k+nq)).setCell (aj w.heap.size 0) (I (-(x:Int)))).setCell (aj w.heap.size 1) (I (y:Int)))=et at aP⊢;have eV:Hid _:=PN aP.out (eO (-(x:Int)) (y:Int));generalize (et.alloc (eO (-(x:Int)) (y:Int)))=WF at eV⊢;obtain⟨⟨aN,aL⟩,_⟩:=nS eV.out.1;exact dC (v:=.tuple #[pc (-(x:Int)) (y:Int),I 0]) (by simp[results,FD,go_sem,aN,aL]) rfl ⟨by rw[lZ.out];rfl,eV.out.2⟩
     ·have lZ:af (r=((x:Int),(y:Int),0)):=(by show _=_;rw[←bq.out,aR (fun h=>bm.out h),aR (by simp[hs,bB])]);have aP:Hid _:=Ij w (k+nq) (x:Int) (y:Int) _ rfl;clear bq;go_wp2_with fail;generalize ((((w.alloc (eO 0 0)).drewN (k+nq)).setCell (aj w.heap.size 0) (I (x:Int))).setCell (aj w.heap.size 1) (I (y:Int)))=et at aP⊢;have eV:Hid _:=PN aP.out (eO (x:Int) (y:Int));generalize (et.alloc (eO (x:Int) (y:Int)))=WF at eV⊢;obtain⟨⟨aN,aL⟩,_⟩:=nS eV.out.1;exact dC (v:=.tuple #[pc (x:Int) (y:Int),I 0]) (by simp[results,FD,go_sem,aN,aL]) rfl ⟨by rw[lZ.out];rfl,eV.out.2⟩
end FF
