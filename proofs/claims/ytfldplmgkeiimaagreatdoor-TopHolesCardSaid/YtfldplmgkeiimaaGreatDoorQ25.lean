/- Lemmas. -/
import Derived.Test.YtfldplmgkeiimaaGreatDoorQ24
set_option linter.all false
set_option maxRecDepth 100000
set_option maxHeartbeats 12800000
namespace Go.Proofs.YtfldplmgkeiimaaGreatDoor
namespace dE
open Go.RowKit el
open cf (C eI)
open jj (kd jk fa hB)
abbrev nZ:TypeId:=268
abbrev oz(b:dL)(jA cD:ada)(r:Int):Array Value:= #[I b.k,I b.a.1,I b.a.2,I b.b.1,I b.b.2,I b.c.1,I b.c.2,I b.r,jA,cD,I r]
abbrev VL:Value:=.agg #[I 0,I 0,I 0,I 0,I 0,I 0,I 0,I 0,ay 0,ay 0,I 0]
def yF(w:bTo)(r:Except Nat (ey×Int))(e:Ending)(w':bTo):Prop:=Below w.heap.size w w'∧match r with
 |.error k=>k≠0∧e=bb (.tuple #[VL,I (k:Int)])
 |.ok x=>∃(pl:aya) (cl:Nat) (pp:aya) (cp:Nat),e=bb (.tuple #[.agg (oz x.1.b (ad pl x.1.b.l.length cl) (ad pp x.1.p.len cp) x.2),I 0])∧dY (fun k=>w.heap.size≤k) w' pl cl pp cp x.1
variable{w w' x bQ:bTo}
theorem yF.get{x:ey×Int}{e:Ending}(h:yF w (.ok x) e w'):av w w w'∧∃(pl:aya) (cl:Nat) (pp:aya) (cp:Nat),e=bb (.tuple #[.agg (oz x.1.b (ad pl x.1.b.l.length cl) (ad pp x.1.p.len cp) x.2),I 0])∧dY (fun k=>w.heap.size≤k) w' pl cl pp cp x.1:=h
theorem yF.no{k:Nat}{e:Ending}(h:yF w (.error k) e w'):av w w w'∧k≠0∧e=bb (.tuple #[VL,I (k:Int)]):=h
def II(w0 w:bTo)(bj:bk)(c7:List Int)(nq:aya)(bC:Nat)(u:Int)(ms:List ma):Prop:=∀(Z:bTo) (fj:ada) (bz:bTv),av w w Z→Z.ownsRow w0.heap.size rQ 2 fj ms.length bz→yv w0 ms bz→av w0 w0 Z→Calls Tryz.prog 142 #[au ⟨bj.toArray⟩,ad nq c7.length bC,I u,fj] Z (yF Z (oK bj c7 u ms))
variable{P D b:Nat}
theorem eR.aop{w0:bTo}{R:Jp}{m:Nat}{L:o3}{fu:Int}{cv ov:ada}{cx ox:bTv}{p:cG}{X bE:bTo}{ap:Int→Option wC}(h:eR w0 P R m L fu cv ov cx ox p X)(ab:aL (fun b=>b≠m) X bE)(hm:rO R bE m ap):eR w0 P R m L fu cv ov cx ox {p with iX:=ap} bE:=by
 obtain⟨es,BD,o4⟩:=h.mp.map;have hR:∀k,R k→k≠m:=fun k ab=>(h.jK k ab).tY;have qq:∀{e:aui} {bn n:Nat} {v:ada} {xs:bTv},X.ownsRow w0.heap.size e bn v n xs→∀k,v.ownBlock=some k→k≠m:=by intro e bn n v xs hr k ab;obtain⟨_,_,c,hc⟩:=qS hr ab;exact sP hc o4
 exact {
  pl:=ab.get (sP h.pl o4) h.pl
  mp:=hm
  nU:=h.nU
  e3:=ke h.e3 ab (qq h.e3)
  jv:=h.jv.keep ab hR fun k hm=>by obtain⟨_,_,c,hc⟩:=h.jv.Aa k hm;exact sP hc o4
  rR:=h.rR
  sR:=h.sR
  bj:=h.bj.keep ab hR fun k cur t aF _=>sP aF o4
  an:=ke h.an ab (qq h.an)
  nV:=h.nV.keep (ab.mono fun k _ ab=>hR k ab)
  fl:=ke h.fl ab (qq h.fl)
  qT:=h.qT
  jJ:=fun k Dv=>⟨(h.jJ k Dv).1,jl (h.jJ k Dv).2 ab.size⟩
  jK:=h.jK
  pK:=h.pK
  rS:=h.rS
  aY:=h.aY.trans (ab.below _ h.aY.size fun k ab e=>by have:=h.rS;omega)}
variable{u:Int}
theorem aoq{c7:List Int}{ms:List ma}{x:ey×Int}(h:oK [67] c7 u ms=.ok x):c7.length=1∨c7.length=2:=by
 unfold oK at h;rw[aT (.inl rfl)] at h;simp only[uR] at h;split at h
 ·cases h
 ·omega
theorem ac7{cX:bTo}{o:Obj}(af:Below (bQ.alloc o).drew.heap.size (bQ.alloc o).drew cX):cX.heap[bQ.heap.size]?=some o:=aO (show (bQ.alloc o).drew.heap[bQ.heap.size]?=some o from cw bQ o) af
abbrev pP(P D:Nat)(u:Int)(fj s3 dd:ada)(bQ x:bTo):Prop:=x.cell? ⟨P,0,none⟩=some (I u)∧aw x P 8 fj∧aw x D 5 s3∧aw x D 10 dd∧av bQ bQ x
variable{fj s3 dd:ada}
theorem yG{v:bTo}(af:av v v x)(h:pP P D u fj s3 dd bQ v):pP P D u fj s3 dd bQ x:=⟨bM af h.1,bM af h.2.1,bM af h.2.2.1,bM af h.2.2.2.1,h.2.2.2.2.trans (af.mono h.2.2.2.2.size)⟩
theorem ac8{v:bTo}(h:pP P D u fj s3 dd bQ v)(o:Obj):pP P D u fj s3 dd bQ (v.alloc o):=yG (ba _ _) h
theorem ac9(hw:av w w bQ)(h:pP P D u fj s3 dd bQ x):av w w x:=hw.trans (h.2.2.2.2.mono hw.size)
theorem yH(h6:P<bQ.heap.size)(bZ:D<bQ.heap.size)(h:pP P D u fj s3 dd bQ x)(i:Nat)(v:ada):pP P D u fj s3 dd bQ (x.setCell (ag bQ.heap.size i) v):=by
 have key:∀k j y,k<bQ.heap.size→aw x k j y→(x.setCell (ag bQ.heap.size i) v).cell? ⟨k,j,none⟩=some y:=by intro k j y ab hy;have e:(x.setCell (ag bQ.heap.size i) v).heap[k]?=x.heap[k]?:=jZ _ _ _ _ (by show k≠bQ.heap.size;omega);simp only[World.cell?,e] at hy⊢;exact hy
 exact⟨key _ _ _ h6 h.1,key _ _ _ h6 h.2.1,key _ _ _ bZ h.2.2.1,key _ _ _ bZ h.2.2.2.1,h.2.2.2.2.setCell (p:=⟨bQ.heap.size,i,none⟩) (bD _) _⟩
theorem ayE(h6:P<bQ.heap.size)(bZ:D<bQ.heap.size)(h:pP P D u fj s3 dd bQ x)(ao ar gY mL yx LH LI LJ LK Bq LL:ada):pP P D u fj s3 dd bQ (((((((((((x.setCell (ag bQ.heap.size 0) ao).setCell (ag bQ.heap.size 1) ar).setCell (ag bQ.heap.size 2) gY).setCell (ag bQ.heap.size 3) mL).setCell (ag bQ.heap.size 4) yx).setCell (ag bQ.heap.size 5) LH).setCell (ag bQ.heap.size 6) LI).setCell (ag bQ.heap.size 7) LJ).setCell (ag bQ.heap.size 8) LK).setCell (ag bQ.heap.size 9) Bq).setCell (ag bQ.heap.size 10) LL):=
 yH h6 bZ (yH h6 bZ (yH h6 bZ (yH h6 bZ (yH h6 bZ (yH h6 bZ (yH h6 bZ (yH h6 bZ (yH h6 bZ (yH h6 bZ (yH h6 bZ h _ _) _ _) _ _) _ _) _ _) _ _) _ _) _ _) _ _) _ _) _ _
theorem aor{S:Jp}(af:¬S b)(v0 v1 v2 v3 v4 v5 v6 du ds v9 v10:ada):aL S w (((((((((((w.setCell (ag b 0) v0).setCell (ag b 1) v1).setCell (ag b 2) v2).setCell (ag b 3) v3).setCell (ag b 4) v4).setCell (ag b 5) v5).setCell (ag b 6) v6).setCell (ag b 7) du).setCell (ag b 8) ds).setCell (ag b 9) v9).setCell (ag b 10) v10):=((((((((((aL.set (a:=⟨b,0,none⟩) af v0).trans (aL.set (a:=⟨b,1,none⟩) af v1)).trans (aL.set (a:=⟨b,2,none⟩) af v2)).trans (aL.set (a:=⟨b,3,none⟩) af v3)).trans (aL.set (a:=⟨b,4,none⟩) af v4)).trans (aL.set (a:=⟨b,5,none⟩) af v5)).trans (aL.set (a:=⟨b,6,none⟩) af v6)).trans (aL.set (a:=⟨b,7,none⟩) af du)).trans (aL.set (a:=⟨b,8,none⟩) af ds)).trans (aL.set (a:=⟨b,9,none⟩) af v9)).trans (aL.set (a:=⟨b,10,none⟩) af v10)
theorem aos{z0 z1 z2 z3 z4 z5 nW nj mK z9 lX:ada}{t:aui}(h:bo w b (#[z0,z1,z2,z3,z4,z5,nW,nj,mK,z9,lX]) t)(v0 v1 v2 v3 v4 v5 v6 du ds v9 v10:ada):(((((((((((w.setCell (ag b 0) v0).setCell (ag b 1) v1).setCell (ag b 2) v2).setCell (ag b 3) v3).setCell (ag b 4) v4).setCell (ag b 5) v5).setCell (ag b 6) v6).setCell (ag b 7) du).setCell (ag b 8) ds).setCell (ag b 9) v9).setCell (ag b 10) v10).heap[b]?=some (.cells #[v0,v1,v2,v3,v4,v5,v6,du,ds,v9,v10] t):=by have aQ:(w.setCell (ag b 0) v0).heap[b]?=some (.cells #[v0,z1,z2,z3,z4,z5,nW,nj,mK,z9,lX] t):=c4 (k:=b) (i:=0) v0 h;have aa:((w.setCell (ag b 0) v0).setCell (ag b 1) v1).heap[b]?=some (.cells #[v0,v1,z2,z3,z4,z5,nW,nj,mK,z9,lX] t):=c4 (k:=b) (i:=1) v1 aQ;have ah:(((w.setCell (ag b 0) v0).setCell (ag b 1) v1).setCell (ag b 2) v2).heap[b]?=some (.cells #[v0,v1,v2,z3,z4,z5,nW,nj,mK,z9,lX] t):=c4 (k:=b) (i:=2) v2 aa;have ax:((((w.setCell (ag b 0) v0).setCell (ag b 1) v1).setCell (ag b 2) v2).setCell (ag b 3) v3).heap[b]?=some (.cells #[v0,v1,v2,v3,z4,z5,nW,nj,mK,z9,lX] t):=c4 (k:=b) (i:=3) v3 ah;have bg:(((((w.setCell (ag b 0) v0).setCell (ag b 1) v1).setCell (ag b 2) v2).setCell (ag b 3) v3).setCell (ag b 4) v4).heap[b]?=some (.cells #[v0,v1,v2,v3,v4,z5,nW,nj,mK,z9,lX] t):=c4 (k:=b) (i:=4) v4 ax;have b7:((((((w.setCell (ag b 0) v0).setCell (ag b 1) v1).setCell (ag b 2) v2).setCell (ag b 3) v3).setCell (ag b 4) v4).setCell (ag b 5) v5).heap[b]?=some (.cells #[v0,v1,v2,v3,v4,v5,nW,nj,mK,z9,lX] t):=c4 (k:=b) (i:=5) v5 bg;have c0:(((((((w.setCell (ag b 0) v0).setCell (ag b 1) v1).setCell (ag b 2) v2).setCell (ag b 3) v3).setCell (ag b 4) v4).setCell (ag b 5) v5).setCell (ag b 6) v6).heap[b]?=some (.cells #[v0,v1,v2,v3,v4,v5,v6,nj,mK,z9,lX] t):=c4 (k:=b) (i:=6) v6 b7;have ea:((((((((w.setCell (ag b 0) v0).setCell (ag b 1) v1).setCell (ag b 2) v2).setCell (ag b 3) v3).setCell (ag b 4) v4).setCell (ag b 5) v5).setCell (ag b 6) v6).setCell (ag b 7) du).heap[b]?=some (.cells #[v0,v1,v2,v3,v4,v5,v6,du,mK,z9,lX] t):=c4 (k:=b) (i:=7) du c0;have eO:(((((((((w.setCell (ag b 0) v0).setCell (ag b 1) v1).setCell (ag b 2) v2).setCell (ag b 3) v3).setCell (ag b 4) v4).setCell (ag b 5) v5).setCell (ag b 6) v6).setCell (ag b 7) du).setCell (ag b 8) ds).heap[b]?=some (.cells #[v0,v1,v2,v3,v4,v5,v6,du,ds,z9,lX] t):=c4 (k:=b) (i:=8) ds ea;have fG:((((((((((w.setCell (ag b 0) v0).setCell (ag b 1) v1).setCell (ag b 2) v2).setCell (ag b 3) v3).setCell (ag b 4) v4).setCell (ag b 5) v5).setCell (ag b 6) v6).setCell (ag b 7) du).setCell (ag b 8) ds).setCell (ag b 9) v9).heap[b]?=some (.cells #[v0,v1,v2,v3,v4,v5,v6,du,ds,v9,lX] t):=c4 (k:=b) (i:=9) v9 eO;have xx:(((((((((((w.setCell (ag b 0) v0).setCell (ag b 1) v1).setCell (ag b 2) v2).setCell (ag b 3) v3).setCell (ag b 4) v4).setCell (ag b 5) v5).setCell (ag b 6) v6).setCell (ag b 7) du).setCell (ag b 8) ds).setCell (ag b 9) v9).setCell (ag b 10) v10).heap[b]?=some (.cells #[v0,v1,v2,v3,v4,v5,v6,du,ds,v9,v10] t):=c4 (k:=b) (i:=10) v10 fG;exact xx
def VM(p:cG)(cn:Int)(bj:bk)(c7:List Int):Except Nat (ey×Int)→Except Nat cG
 |.error e=>.error e
 |.ok (s,r)=>.ok {p with iX:=fun j=>if j=cn then some ⟨s,r,decide (bj=[67])&&(decide (c7.length=1)|| decide (c7.getD 1 0=0)),false,[]⟩ else p.iX j}
theorem aot(w0:bTo)(P:Nat)(p:cG)(B:Nat)(ca cn cC:Int)(db:Bool)(bj dZ d' dO bn:bk)(c7:List Int)(nq:aya)(bC:Nat)(bv:ada)(w:bTo)(H:J (lF w0 P p w))(Al:J (fa B w nq c7))(gp:c7.length≤1000000000)(Qs:J (II w0 w bj c7 nq bC p.unit p.gd))(sy:p.levels.length≤1000)(res:Except Nat cG)
  (dk:J ((if p.unit=0∨EE p cn=true then .error 4 else VM p cn bj c7 (oK bj c7 p.unit p.gd))=res)):
  Calls Tryz.prog 96 #[dv P 0,.agg (iy ca 10 cn cC db bj dZ d' dO bn (ad nq c7.length bC) bv)] w fun e w'=>fm w0 P res e w':=by
 have L8:=H;obtain⟨R,m,L,fu,cv,ov,cx,ox,h⟩:=H.out;have H1:=U h;obtain⟨n,hn⟩:=az c7.length;have a1:=U hn;obtain⟨u,hu⟩:=az p.unit;obtain⟨t,bH⟩:=az (EE p cn);have BN:=U bH;have yq:=U hu;obtain⟨fj,VN⟩:=az L.fj;have VF:=U VN;have vD:J (∀Z,av w w Z→Calls Tryz.prog 142 #[au ⟨bj.toArray⟩,ad nq n bC,I u,fj] Z (yF Z (oK bj c7 p.unit p.gd))):=by intro Z eU;have ah:=h.below eU;have ax:=Qs.out Z L.fj L.bz eU ah.fl ah.qT ah.aY;rw[hn,hu,VN] at ax;rw[hu];exact ax
 rw[hn];clear h H hn bH VN Qs;go_enter Qm,Qn;go_upto_region 20 with fail;have b9:=U (H1.out.below (ba w (aD (iy ca 10 cn cC db bj dZ d' dO bn (ad nq n bC) bv) gP)));have cI:J ((w.alloc (aD (iy ca 10 cn cC db bj dZ d' dO bn (ad nq n bC) bv) gP)).heap[w.heap.size]?=some (.cells (iy ca 10 cn cC db bj dZ d' dO bn (ad nq n bC) bv) gP)):=cw _ _;have aH:J (av w w (w.alloc (aD (iy ca 10 cn cC db bj dZ d' dO bn (ad nq n bC) bv) gP))):=ba _ _;generalize w.alloc (.cells (iy ca 10 cn cC db bj dZ d' dO bn (ad nq n bC) bv) gP)=W at b9 cI aH⊢;obtain⟨D,bZ⟩:=az w.heap.size;rw[bZ] at cI⊢;clear bZ;have aJ:aw W P 0 (I u):=by rw[←hu];exact cell_of (i:=0) b9.out.pl rfl
 have d2:aw W D 2 (I cn):=cell_of (i:=2) cI.out rfl;have qP:J ((if u=0∨t=true then .error 4 else VM p cn bj c7 (oK bj c7 p.unit p.gd))=res):=by show _=_;rw[←dk.out,hu,BN.out]
 clear hu dk;by_cases yD:u=0
 ·subst yD;have hF: .error 4=res:=qP.out;go_wp2_with fail;go_ret;rw[←hF];exact⟨b9.out.aY,rfl⟩
 have VE:(u==0)=false:=beq_eq_false_iff_ne.2 yD;have sY:J (lF w0 P p W):=L8.out.below aH.out;go_wp2_with fail;go_fit (aoe w0 P p cn W sY sy t BN);rintro e bQ ⟨rfl,e5⟩;have cS:=U (b9.out.below e5);have kB:=U (aO cI.out e5);have dx:=U (aH.out.trans (e5.mono aH.out.size));clear aJ d2 e5 b9 cI aH sY;cases t with
 |true=>
  have hF: .error 4=res:=(by rw[←qP.out,aT (.inr rfl)]);go_wp2_with fail;go_ret;rw[←hF];exact⟨cS.out.aY,rfl⟩
 |false=>
  obtain⟨a,ha⟩:=az (oK bj c7 p.unit p.gd);have b8:=U ha;have eg:J ((VM p cn bj c7 a)=res):=(by show _=_;rw[←qP.out,aK (by simp[yD]),ha]);rw[ha] at vD;clear ha;have aJ:aw bQ P 0 (I u):=(by rw[←yq.out];exact cell_of (i:=0) cS.out.pl rfl);have bS:aw bQ P 8 fj:=(by rw[←VF.out];exact cell_of (i:=8) cS.out.pl rfl);have d5:aw bQ D 5 (au ⟨bj.toArray⟩):=cell_of (i:=5) kB.out rfl;have d10:aw bQ D 10 (ad nq n bC):=cell_of (i:=10) kB.out rfl;have qu:=lt_of_heap cS.out.pl;have qj:=lt_of_heap kB.out;go_upto_region 22 with fail;cases a with
  |ok x=>
   obtain⟨⟨⟨k,⟨aA,aB⟩,⟨aU,aZ⟩,⟨eM,eN⟩,r,l⟩,s⟩,eZ⟩:=x;have fH:J (pP P D u fj (au ⟨bj.toArray⟩) (ad nq n bC) bQ bQ):=⟨aJ,bS,d5,d10,Below.refl _ _⟩;have tH:J (pP P D u fj (au ⟨bj.toArray⟩) (ad nq n bC) bQ bQ.drew):=yG (Below.refl _ _).drew fH.out;have Mb:J (∀o,pP P D u fj (au ⟨bj.toArray⟩) (ad nq n bC) bQ (bQ.alloc o)):=fun o=>yG (ba _ _) fH.out;have Mc:J (∀o,pP P D u fj (au ⟨bj.toArray⟩) (ad nq n bC) bQ (bQ.alloc o).drew):=fun o=>yG (ba _ _).drew fH.out;clear aJ bS d5 d10;go_cut [8,9] (fun a b fT=>∃(T:Nat) (pl:aya) (cl:Nat) (pp:aya) (cp:Nat),a=.pointer (some (ag T 0))∧b=I 0∧J (av bQ bQ fT)∧J (bo fT T (#[I k,I aA,I aB,I aU,I aZ,I eM,I eN,I r,ad pl l.length cl,ad pp s.len cp,I eZ]) nZ)∧J (dY (fun k=>bQ.heap.size≤k) fT pl cl pp cp ⟨⟨k,(aA,aB),(aU,aZ),(eM,eN),r,l⟩,s⟩))
   case first=>
    go_region_held3 (fun Z=>pP P D u fj (au ⟨bj.toArray⟩) (ad nq n bC) bQ Z) (first|with_reducible exact fH.out|with_reducible exact tH.out|with_reducible exact Mb.out _|with_reducible exact Mc.out _|with_reducible exact yG (by assumption) (by assumption)|with_reducible exact Am.out _|with_reducible exact DI.out _ _ _ _ _ _ _ _ _ _ _|fail) (first|(go_at_call 142;go_fit (vD.out _ (ac9 dx.out (by assumption)));intro e cX hA;obtain⟨eQ,pl,cl,pp,cp,rfl,Dc⟩:=hA.get;have s4:=U (yG eQ (by assumption));have Am:=U (ac8 s4.out);have DI:=U (ayE qu qj s4.out);(try (have yc:bo cX bQ.heap.size (#[I 0,I 0,I 0,I 0,I 0,I 0,I 0,I 0,ay 0,ay 0,I 0]) nZ:=(by with_reducible exact ac7 eQ);obtain⟨z0,z1,z2,z3,z4,z5,nW,nj,mK,z9,lX⟩:=qM yc;have o6:=fun i=>cP yc i;have Qt:=U yc;clear yc)))|fail)
    ·go_wp2_with fail;go_meet;exact⟨_,pl,cl,pp,cp,rfl,rfl,s4.out.2.2.2.2.alloc s4.out.2.2.2.2.size _,cw _ _,Dc.below (ba _ _)⟩
    ·go_wp2_with fail;go_meet;have aou:dY (fun k=>bQ.heap.size+1≤k) cX pl cl pp cp ⟨⟨k,(aA,aB),(aU,aZ),(eM,eN),r,l⟩,s⟩:=(Dc.mono fun tM _ h=>by have e:(bQ.alloc (aD (#[I 0,I 0,I 0,I 0,I 0,I 0,I 0,I 0,ay 0,ay 0,I 0]) nZ)).drew.heap.size=bQ.heap.size+1:=qo _;rw[e] at h;exact h);exact⟨_,pl,cl,pp,cp,rfl,rfl,(DI.out _ _ _ _ _ _ _ _ _ _ _).2.2.2.2,aos Qt.out _ _ _ _ _ _ _ _ _ _ _,(aou.keep (aor (S:=fun k=>bQ.heap.size+1≤k) (b:=bQ.heap.size) (by omega) _ _ _ _ _ _ _ _ _ _ _)).mono fun tM _ h=>by omega⟩
   case rest=>
    obtain⟨T,pl,cl,pp,cp,rfl,rfl,fq,sW,tZ⟩:=hcut;clear fH tH Mb Mc vD qu qj;have iT:=U (cS.out.fresh fq.out);have wm:=U (aO kB.out fq.out);have FW:J (av w w wc):=dx.out.trans (fq.out.mono dx.out.size);have vu:J (dY (fun k=>R k∨(bQ.heap.size≤k∧k<wc.heap.size)) wc pl cl pp cp ⟨⟨k,(aA,aB),(aU,aZ),(eM,eN),r,l⟩,s⟩):=tZ.out.lt.mono fun _ _ h=>.inr ⟨h.1,h.2⟩;generalize (fun k=>R k∨(bQ.heap.size≤k∧k<wc.heap.size))=aw7 at iT vu;obtain⟨rd,nu⟩:=az (decide (bj=[67])&&(decide (c7.length=1)|| decide (c7.getD 1 0=0)));have aE:J (.ok {p with iX:=fun j=>if j=cn then some ⟨⟨⟨k,(aA,aB),(aU,aZ),(eM,eN),r,l⟩,s⟩,eZ,rd,false,[]⟩ else p.iX j}=res):=(by show _=_;rw[←eg.out,←nu];rfl);clear eg;go_upto_region 25 with fail;go_cut [10] (fun a fT=>a=ai rd∧wc=fT)
    case first=>
     have d5:aw wc D 5 (au ⟨bj.toArray⟩):=cell_of (i:=5) wm.out rfl;have d10:aw wc D 10 (ad nq n bC):=cell_of (i:=10) wm.out rfl;by_cases hc:bj=[67]
     ·have Qp:(bj==[67])=true:=(by rw[hc];rfl);have FC:n=1∨n=2:=(by rw[←a1.out];exact aoq (by rw[←hc];exact b8.out));rcases FC with rfl|rfl
      ·have Md:rd=true:=(by rw[←nu,hc,a1.out];rfl);subst Md;go_wp2_with fail;go_meet;exact⟨rfl,rfl⟩
      ·obtain⟨b,o,cs,aC,_,aF,h1⟩:=Al.out (by rw[a1.out];decide);subst aC;have aa:=h1 1 (by rw[a1.out];decide);obtain⟨v1,tP⟩:=az (c7[1]'(by rw[a1.out];decide));rw[tP] at aa;have ax:=aO aF FW.out;have Qu:aw wc b (o+1) (I v1):=(by simp[World.cell?,ax,aa]);have Md:rd=(v1==0):=(by rw[←nu,hc,a1.out,yt,jH (by rw[a1.out];decide),tP];rfl);subst Md;clear h1 aF aa ax tP nu;go_wp2_with fail;go_meet;exact⟨rfl,rfl⟩
     ·have Qp:(bj==[67])=false:=beq_eq_false_iff_ne.2 hc;have Md:rd=false:=(by rw[←nu,eD hc];rfl);subst Md;go_wp2_with fail;go_meet;exact⟨rfl,rfl⟩
    case rest=>
     obtain⟨rfl,rfl⟩:=hcut;have d2:aw wc D 2 (I cn):=cell_of (i:=2) wm.out rfl;have b1:aw wc P 6 (.map (some m)):=cell_of (i:=6) iT.out.pl rfl;obtain⟨t0,t1,t2,t3,t4,t5,t6,t7,t8,t9,t10⟩:=qM sW.out;have yw:=U (iT.out.below (Below.refl _ _).drew);obtain⟨Cq,O1,o4,Bl⟩:=rO.amr (a:=⟨⟨⟨k,(aA,aB),(aU,aZ),(eM,eN),r,l⟩,s⟩,eZ,rd,false,[]⟩) (v:=(.agg #[I k,I aA,I aB,I aU,I aZ,I eM,I eN,I r,ad pl l.length cl,ad pp s.len cp,I eZ,ai rd,ai false,ay 0])) yw.out.mp (fun h=>(yw.out.jK _ h).tY rfl) cn ⟨pl,cl,pp,cp,none,0,rfl,vu.out.below (Below.refl _ _).drew,.nil _ _ _,bD _⟩;have s5:=U o4;have kC:=U Bl;clear o4 Bl nu;go_upto_region 26 with fail;go_region;go_wp2_with fail;go_ret;rw[←aE.out];exact fm.mJ rfl (yw.out.aop kC.out s5.out)
  |error Qv=>
   have hF: .error Qv=res:=eg.out;have fH:J (pP P D u fj (au ⟨bj.toArray⟩) (ad nq n bC) bQ bQ):=⟨aJ,bS,d5,d10,Below.refl _ _⟩;have tH:J (pP P D u fj (au ⟨bj.toArray⟩) (ad nq n bC) bQ bQ.drew):=yG (Below.refl _ _).drew fH.out;have Mb:J (∀o,pP P D u fj (au ⟨bj.toArray⟩) (ad nq n bC) bQ (bQ.alloc o)):=fun o=>yG (ba _ _) fH.out;have Mc:J (∀o,pP P D u fj (au ⟨bj.toArray⟩) (ad nq n bC) bQ (bQ.alloc o).drew):=fun o=>yG (ba _ _).drew fH.out;clear aJ bS d5 d10;go_cut [9] (fun b fT=>b=I Qv∧Qv≠0∧J (av bQ bQ fT))
   case first=>
    go_region_held3 (fun Z=>pP P D u fj (au ⟨bj.toArray⟩) (ad nq n bC) bQ Z) (first|with_reducible exact fH.out|with_reducible exact tH.out|with_reducible exact Mb.out _|with_reducible exact Mc.out _|with_reducible exact yG (by assumption) (by assumption)|with_reducible exact Am.out _|with_reducible exact DI.out _ _ _ _ _ _ _ _ _ _ _|fail) (first|(go_at_call 142;go_fit (vD.out _ (ac9 dx.out (by assumption)));intro e cX hA;obtain⟨eQ,lJ,rfl⟩:=hA.no;have s4:=U (yG eQ (by assumption));have Am:=U (ac8 s4.out);have DI:=U (ayE qu qj s4.out);(try (have yc:bo cX bQ.heap.size (#[I 0,I 0,I 0,I 0,I 0,I 0,I 0,I 0,ay 0,ay 0,I 0]) nZ:=(by with_reducible exact ac7 eQ);obtain⟨z0,z1,z2,z3,z4,z5,nW,nj,mK,z9,lX⟩:=qM yc;have o6:=fun i=>cP yc i;have Qt:=U yc;clear yc)))|fail)
    ·go_wp2_with fail;go_meet;exact⟨rfl,lJ,s4.out.2.2.2.2.alloc s4.out.2.2.2.2.size _⟩
    ·go_wp2_with fail;go_meet;exact⟨rfl,lJ,(DI.out _ _ _ _ _ _ _ _ _ _ _).2.2.2.2⟩
   case rest=>
    obtain⟨rfl,aw8,fq⟩:=hcut;have Qw:((Qv:Int) !=0)=true:=(by rw[tt];omega);have iT:=U (cS.out.below fq.out);clear vD qu qj fH tH Mb Mc;go_wp2_with fail;go_ret;rw[←hF];exact⟨iT.out.aY,rfl⟩
variable{P:bTo→Prop}{w:bTo}{o p q:Obj}{g i j m:Nat}{cs:agv}{t:aui}{u v x:ada}
theorem Me(k:∀W,W.heap[w.heap.size]?=some o→av w w W→P W):P (w.alloc o):=k _ (cw _ _) (ba _ _)
theorem VO(k:∀W,W.heap[w.heap.size]?=some o→W.heap[w.heap.size+1]?=some p→av w w W→P W):P ((w.alloc o).alloc p):=by refine k _ (aO (cw _ _) (ba _ _)) ?_ ((ba _ _).trans ((ba _ _).mono (ba _ _).size));rw[←xE w o];exact cw _ _
theorem aL.ne(v:ada):aL (fun k=>k≠g) w (w.setCell (ag g b) v):=aL.set (a:=⟨g,b,none⟩) (fun h=>h rfl) v
theorem aL.aY{B:Nat}{w0:bTo}(h:aL (fun b=>b≠g) w w')(af:Below B w0 w)(aX:B≤g)(hs:B≤w.heap.size):Below B w0 w':=af.trans (h.below B hs fun k ab e=>by omega)
theorem adb(h:bo w g cs t)(k:∀W,bo W g (cs.setIfInBounds i v) t→aL (fun b=>b≠g) w W→P W):P (w.setCell (ag g i) v):=k _ (c4 _ h) (aL.ne _)
theorem aov(h:bo w g cs t)(k:∀W,bo W g (cs.setIfInBounds i v) t→aL (fun b=>b≠g) w W→W.heap.size=w.heap.size→P W):P (w.setCell (ag g i) v):=k _ (c4 _ h) (aL.ne _) (SK _ _ _)
theorem aow(h:bo w g cs t)(k:∀W,bo W g ((cs.setIfInBounds i u).setIfInBounds j v) t→aL (fun b=>b≠g) w W→P W):P ((w.setCell (ag g i) u).setCell (ag g j) v):=k _ (c4 _ (c4 _ h)) ((aL.ne _).trans (aL.ne _))
theorem aox(h:bo w g cs t)(k:∀W,bo W g (((cs.setIfInBounds i u).setIfInBounds j v).setIfInBounds m x) t→aL (fun b=>b≠g) w W→P W):P (((w.setCell (ag g i) u).setCell (ag g j) v).setCell (ag g m) x):=k _ (c4 _ (c4 _ (c4 _ h))) (((aL.ne _).trans (aL.ne _)).trans (aL.ne _))
theorem ade:∀(vs pre l:bTv),vs.length≤l.length→sl (pre++l).toArray pre.length vs=(pre++vs++l.drop vs.length).toArray
 |[],pre,l,_=>by simp[sl]
 |v::vs,pre,[],h=>absurd h (by simp)
 |v::vs,pre,x::l,h=>by have e:(pre++x::l).toArray.setIfInBounds pre.length v=((pre++[v])++l).toArray:=(by simp);have g:=ade vs (pre++[v]) l (by simpa using h);rw[gh] at g;show sl _ _ _=_;rw[sl,e];exact g.trans (by simp)
theorem adf{l:bTv}(vs:bTv)(h:bo w g l.toArray t)(aj:vs.length≤l.length)(k:∀W,bo W g ((vs++l.drop vs.length).toArray) t→aL (fun b=>b≠g) w W→W.heap.size=w.heap.size→P W):P (jh w g 0 vs):=by refine k _ ?_ (xT (fun h=>h rfl) vs) (YT _ _ _ _);rw[Hp vs h];have:=ade vs [] l aj;simp only[J8,th] at this;rw[this]
theorem aoy{l:bTv}(vs:bTv)(h:bo w g l.toArray t)(aj:vs.length≤l.length)(k:∀W,bo W g ((vs++l.drop vs.length).toArray) t→aL (fun b=>b≠g) w W→P W):P (jh w g 0 vs):=adf vs h aj fun W aa ah _=>k W aa ah
theorem F7(vs:bTv)(h:bo w g cs t)(aj:vs.length=cs.size)(k:∀W,bo W g vs.toArray t→aL (fun b=>b≠g) w W→P W):P (jh w g 0 vs):=k _ (me vs h aj) (xT (fun h=>h rfl) vs)
def DJ(w:bTo)(b:dL)(e:Ending)(w':bTo):Prop:=Below w.heap.size w w'∧∃(pl:aya) (cl:Nat),e=bb (j0 b (ad pl b.l.length cl) eX)∧dY (fun k=>w.heap.size≤k) w' pl cl none 0 ⟨b,.nil⟩
theorem DJ.bare{w w':bTo}{b:dL}(aj:b.l=[])(af:av w w w'):DJ w b (bb (j0 b eX eX)) w':=⟨af,none,0,by rw[aj];rfl,.bare _ _ _ _ _ _ _ aj⟩
theorem aoz(r:Int)(w:bTo):Calls Tryz.prog 183 #[I r] w (DJ w (Kf r)):=by
 by_cases aQ:r=0
 ·subst aQ;go_enter Tryz.func183,Tryz.ntmps183;go_wp2_with fail;exact dH (rq rfl _ _ w.heap.size _ _ _ _ rfl (cw w (aD (GX (Kf 0) eX eX) dh)) zR rfl (by kernel_rfl)) rfl (.bare rfl (ba _ _))
 ·have aa:(r==0)=false:=beq_eq_false_iff_ne.2 aQ;have hc:Kf r=wB (0,0) r:=aK aQ;rw[hc];clear hc;go_enter Tryz.func183,Tryz.ntmps183;go_wp2_with fail;exact dH (rq rfl _ _ w.heap.size _ _ _ _ rfl (cw w (aD (GX (wB (0,0) r) eX eX) dh)) zR rfl (by kernel_rfl)) rfl (.bare rfl (ba _ _))
theorem aoA(a b:Int)(ha:0≤a∧a≤1000000000)(af:0≤b∧b≤1000000000)(w:bTo):Calls Tryz.prog 185 #[I a,I b] w (DJ w (Hj a b)):=by
 have aN:bT (a-b)=a-b:=b4 _ (by omega);have aR:bT (b-a)=b-a:=b4 _ (by omega);by_cases aa:b<a
 ·have hc:Hj a b=uL (b-a,0) (a-b,0) b:=aT aa;rw[hc];clear hc;go_enter Tryz.func185,Tryz.ntmps185;go_wp2_with fail;exact dH (rq rfl _ _ w.heap.size _ _ _ _ rfl (cw w (aD (GX (uL (b-a,0) (a-b,0) b) eX eX) dh)) zR rfl (by kernel_rfl)) rfl (.bare rfl (ba _ _))
 ·by_cases ah:a<b
  ·have hc:Hj a b=uL (0,a-b) (0,b-a) a:=(aK aa).trans (aT ah);rw[hc];clear hc;go_enter Tryz.func185,Tryz.ntmps185;go_wp2_with fail;exact dH (rq rfl _ _ w.heap.size _ _ _ _ rfl (cw w (aD (GX (uL (0,a-b) (0,b-a) a) eX eX) dh)) zR rfl (by kernel_rfl)) rfl (.bare rfl (ba _ _))
  ·have hc:Hj a b=wB (0,0) a:=(aK aa).trans (aK ah);rw[hc];clear hc;go_enter Tryz.func185,Tryz.ntmps185;go_wp2_with fail;exact dH (rq rfl _ _ w.heap.size _ _ _ _ rfl (cw w (aD (GX (wB (0,0) a) eX eX) dh)) zR rfl (by kernel_rfl)) rfl (.bare rfl (ba _ _))
theorem aoB(a b:Int)(ha:0≤a∧a≤1000000000)(af:0≤b∧b≤1000000000)(w:bTo):Calls Tryz.prog 184 #[I a,I b] w (DJ w (SG a b)):=by
 have aN:bT (-a)= -a:=b4 _ (by omega);have aR:bT (-b)= -b:=b4 _ (by omega);go_enter Tryz.func184,Tryz.ntmps184;go_wp2_with fail;obtain⟨aa,ah,ax,af,_⟩:=rb (w:=w) rfl;refine dH (rq rfl _ _ w.heap.size _ _ _ _ rfl aa zR rfl (by kernel_rfl)) rfl ⟨af,some ⟨w.heap.size+1+1,0,none⟩,1,rfl,⟨⟨show 1≤nA by decide,fun _=>⟨_,0,_,rfl,by omega,ax,?_⟩⟩,.nil _ _ _,bD _,bD _⟩⟩;intro i hi;obtain rfl:i=0:=by have:i<1:=hi;omega
 refine⟨some ⟨w.heap.size+1,0,none⟩,4,rfl,bD _,show 4≤nA by decide,fun _=>⟨_,0,_,rfl,by omega,ah,?_⟩⟩;intro i hi;have hi:i<4:=hi;rcases (show i=0∨i=1∨i=2∨i=3 by omega) with rfl|rfl|rfl|rfl<;>exact⟨rfl,rfl⟩
end dE
