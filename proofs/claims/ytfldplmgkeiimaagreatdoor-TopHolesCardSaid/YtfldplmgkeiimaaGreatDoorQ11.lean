/- Lemmas. -/
import Derived.Test.YtfldplmgkeiimaaGreatDoorQ10
import Derived.WalkSmall
import Derived.RangeFuncBox
set_option linter.all false
set_option maxRecDepth 100000
set_option maxHeartbeats 25600000
namespace Go.Proofs.YtfldplmgkeiimaaGreatDoor
abbrev zO:=@List.getElem?_append_right
abbrev OY:=@Nat.add_sub_cancel_left
abbrev TP:=@List.set_append_right
abbrev C7:=@Option.some.inj
namespace dE
open Go.RowKit el
variable{S:Jp}{w w' x y w0:bTo}{B bn n i c M k:Nat}{v:ada}
theorem TQ{e:aui}{xs:bTv}(h:w.ownsRow B e bn v n xs)(ab:aL S w w')(hS:∀k,v.ownBlock=some k→S k):w'.ownsRow B e bn v n xs:=by
 refine⟨h.1,?_⟩;rcases h.2 with aa|⟨g,cap,cur,rfl,bJ,aF,ah⟩
 ·exact .inl aa
 ·exact .inr ⟨g,cap,cur,rfl,bJ,ab.get (hS g rfl) aF,ah⟩
theorem akJ{j:Nat}{a:agv}{s:aui}{f:Nat×Nat}{es:Array MapEntry}(aa:w.heap[i]?=some (.cells a s f))(ah:w.heap[j]?=some (.map es c)):i≠j:=by rintro rfl;rw[aa] at ah;cases ah
theorem wP{g m:Nat}{e:aui}{xs:bTv}(h:w.ownsRow B e bn (bG g 0 n c) m xs):B≤g∧∃cur,w.heap[g]?=some (.cells cur e (0,0)):=by
 rcases h.2 with ⟨aS,_⟩|⟨k,cap,cur,ab,bJ,aF,_⟩
 ·cases aS
 ·injection ab with eA _ ga;injection eA with eA;injection eA with eA;subst eA;exact⟨bJ,cur,aF⟩
theorem akK{e:aui}{xs:bTv}(h:w.ownsRow B e bn v n xs){b:Nat}{es:Array MapEntry}(af:w.heap[b]?=some (.map es c)):v.ownBlock≠some b:=by
 rcases h.2 with ⟨rfl,_⟩|⟨g,cap,cur,rfl,_,aF,_⟩
 ·simp[Value.ownBlock]
 ·intro ah;have:g=b:=(by simpa[Value.ownBlock] using ah);subst this;rw[af] at aF;cases aF
abbrev wQ:TypeId:=296
def ZW(w0:bTo):List Fr→Prop
 |[]=>True
 |[_]=>True
 |f::g::ts=>w0.cell? ⟨g.k,g.o+g.pre.len *11+10,none⟩=some (ad (some (ag f.k f.o)) f.all.len f.c)∧ZW w0 (g::ts)
structure om(S:Jp)(w0:bTo)(M:Nat)(root:bh)(ts:List Fr)(hd:Bool)(L:List (iP×Int))(sv:ada)(w:bTo):Prop where
 aY:av w0 w0 w
 row:w.ownsRow w0.heap.size wQ 3 sv ts.length (qh ts)
 map:sw w M L
 oJ:vc S w0 L ts
 zP:vb root ts
 jB:ZW w0 ts
 ps:∀g∈ts,iG S w0 (some (ag g.k g.o)) g.all∧0<g.all.len∧g.all.len≤1000000000
 OZ:w0.heap.size≤M
 ab:hd=true→∃f us a b sub r tM uG c',ts=f::us∧f.rest=.cons a b sub r∧0<sub.len∧aw w0 f.k (f.o+f.pre.len *11+10) (ad (some (ag tM uG)) sub.len c')∧ky L (tM,uG,sub.len)≠none
variable{L:List (iP×Int)}
theorem sw.keep(h:sw w M L)(ab:aL S w w')(hS:S M):sw w' M L:=by obtain⟨es,c,aa,ah⟩:=h;exact⟨es,c,ab.get hS aa,ah⟩
theorem sw.below(h:sw w M L)(af:av w w w'):sw w' M L:=h.keep (S:=fun _=>True) (.dM af) trivial
theorem E8.below(h:E8 w L)(af:av w w w'):E8 w' L:=fun x hx=>by obtain⟨cs,aF⟩:=h x hx;exact⟨cs,aO aF af⟩
theorem om.below{S:Jp}{w0:bTo}{M:Nat}{root:bh}{ts:List Fr}{hd:Bool}{L:List (iP×Int)}{sv:ada}{w w':bTo}(h:om S w0 M root ts hd L sv w)(af:av w w w'):om S w0 M root ts hd L sv w':=
 {h with aY:=h.aY.trans (af.mono h.aY.size),row:=fE h.row af,map:=h.map.below af}
theorem TR{e:aui}{xs:bTv}(h:sw w M L)(hr:w.ownsRow B e bn v n xs):v.ownBlock≠some M:=by obtain⟨es,c,aF,_⟩:=h;exact akK hr aF
theorem KZ{g:Nat}{e:aui}{xs:bTv}{z0 z1 z2:ada}(h:w.ownsRow B e 3 (bG g 0 (n+1) c) (n+1) (xs++[z0,z1,z2]))(hx:xs.length=n *3):
  aw w g (n *3) z0∧aw w g (n *3+1) z1∧aw w g (n *3+2) z2:=by
 have key:∀j,j<3→w.cell? ⟨g,n *3+j,none⟩=[z0,z1,z2][j]?:=by intro j cB;rw[h.cellAt (n *3+j) (by omega),zO (by omega),hx,OY]
 exact⟨key 0 (by decide),key 1 (by decide),key 2 (by decide)⟩
theorem om.pop{S:Jp}{w0:bTo}{M:Nat}{root:bh}{f g:Fr}{ts:List Fr}{hd:Bool}{L:List (iP×Int)}{tN cap n:Nat}{w bE:bTo}(h:om S w0 M root (f::g::ts) hd L (bG tN 0 (n+1) cap) w)(hn:(g::ts).length=n)(ab:aL (fun b=>b≠M) w bE)(h6:sw bE M (oj L f.key (f.all.count:Int))):
  om S w0 M root (g::ts) true (oj L f.key (f.all.count:Int)) (bG tN 0 n cap) bE:=by
 obtain⟨hp,aj,_⟩:=h.ps f (by simp);obtain⟨⟨a,b,r,e⟩,KY⟩:=h.zP;obtain⟨Bm,ph⟩:=h.jB;refine⟨h.aY.trans (ab.below _ h.aY.size fun k ga e=>by have:=h.OZ;omega),?_,h6,h.oJ.pop hp aj,KY,ph,fun x hx=>h.ps x (by simp[hx]),h.OZ,fun _=>⟨g,ts,a,b,f.all,r,f.k,f.o,f.c,rfl,e,aj,Bm,?_⟩⟩
 ·have aa:bE.ownsRow w0.heap.size wQ 3 (bG tN 0 (n+1) cap) (f::g::ts).length (qh (f::g::ts)):=TQ h.row ab fun k aR cA=>TR h.map h.row (cA ▸ aR);rw[show (f::g::ts).length=n+1 by simp[←hn]] at aa;have ah:=ownsRow_pop (xs:=qh (g::ts)) (last:=E9 f) (by rw[C6,hn]) aa;rw[hn];exact ah
 ·show ky _ f.key≠none;rw[HO,aT rfl];exact fun h=>by cases h
theorem om.OX{S:Jp}{w0:bTo}{M:Nat}{root:bh}{f:Fr}{ts:List Fr}{hd:Bool}{L:List (iP×Int)}{tN cap n:Nat}{w:bTo}(h:om S w0 M root (f::ts) hd L (bG tN 0 (n+1) cap) w)(hn:ts.length=n){a:Bool}{b:dL}{sub r:bh}(hr:f.rest=.cons a b sub r):
  om S w0 M root (⟨f.k,f.o,f.c,f.pre.append (.cons a b sub .nil),r⟩::ts) false L (bG tN 0 (n+1) cap) ((w.setCell (ag tN (n *3+2)) (I (f.pre.count+(sub.count+1):Nat))).setCell (ag tN (n *3+1)) (I (f.pre.len+1:Nat))):=by
 have nG:(⟨f.k,f.o,f.c,f.pre.append (.cons a b sub .nil),r⟩:Fr).all=f.all:=by unfold Fr.all;rw[hr];show (f.pre.append (.cons a b sub .nil)).append r=_;rw[bh.append_assoc];rfl
 have aQ:=h.row;rw[show (f::ts).length=n+1 by simp[hn]] at aQ;obtain⟨aa,g1⟩:=aQ.stored (n *3+2) (I ((f.pre.count+(sub.count+1):Nat):Int));obtain⟨ah,g2⟩:=aa.stored (n *3+1) (I ((f.pre.len+1:Nat):Int));have tO:=(wP aQ).1;obtain⟨_,cur,gv⟩:=wP aQ;have TS:M≠tN:=by obtain⟨es,c,aF,_⟩:=h.map;exact (akJ gv aF).symm
 have hK:aL (fun k=>k≠tN) w ((w.setCell (ag tN (n *3+2)) (I (f.pre.count+(sub.count+1):Nat))).setCell (ag tN (n *3+1)) (I (f.pre.len+1:Nat))):=(aL.set (a:=⟨tN,n *3+2,none⟩) (fun h=>h rfl) _).trans (aL.set (a:=⟨tN,n *3+1,none⟩) (fun h=>h rfl) _);refine⟨h.aY.trans (hK.below _ h.aY.size fun k ab=>by omega),?_,h.map.keep hK TS,h.oJ.OX (by unfold Fr.key;rw[nG]),?_,?_,fun x hx=>?_,h.OZ,fun e=>by cases e⟩
 ·rw[show (⟨f.k,f.o,f.c,f.pre.append (.cons a b sub .nil),r⟩::ts:List Fr).length=n+1 by simp[hn]];have e:qh (⟨f.k,f.o,f.c,f.pre.append (.cons a b sub .nil),r⟩::ts)=((qh (f::ts)).set (n *3+2) (I ((f.pre.count+(sub.count+1):Nat):Int))).set (n *3+1) (I ((f.pre.len+1:Nat):Int)):=(by have aj:(qh ts).length=n *3:=(by rw[C6,hn]);simp only[qh,E9,nG];rw[TP _ _ (by omega),TP _ _ (by omega),aj,show n *3+2-n *3=2 by omega,show n *3+1-n *3=1 by omega];simp[bh.uu,bh.count_append,bh.len,bh.count]);rw[e];exact ah
 ·cases ts with
  |nil=>exact nG.trans h.zP
  |cons g ts=>
   obtain⟨⟨h2,bd,gm,e⟩,KY⟩:=h.zP;exact⟨⟨h2,bd,gm,by rw[nG];exact e⟩,KY⟩
 ·cases ts with
  |nil=>trivial
  |cons g ts=>
   obtain⟨e,ph⟩:=h.jB;exact⟨by rw[nG];exact e,ph⟩
 ·rcases List.mem_cons.1 hx with rfl|hx
  ·rw[nG];exact h.ps f (by simp)
  ·exact h.ps x (by simp[hx])
theorem om.push{S:Jp}{w0:bTo}{M:Nat}{root:bh}{f f':Fr}{ts:List Fr}{hd:Bool}{L:List (iP×Int)}{sv sv':ada}{w w':bTo}(h:om S w0 M root (f::ts) hd L sv w){a:Bool}{b:dL}{r:bh}(hr:f.rest=.cons a b f'.all r)(av6:f'.pre=.nil)(nB:aw w0 f.k (f.o+f.pre.len *11+10) (ad (some (ag f'.k f'.o)) f'.all.len f'.c))(hp:iG S w0 (some (ag f'.k f'.o)) f'.all)(aj:0<f'.all.len∧f'.all.len≤1000000000)(af:av w0 w0 w')(eh:w'.ownsRow w0.heap.size wQ 3 sv' (f'::f::ts).length (qh (f'::f::ts)))(h6:sw w' M (oj L f'.key (-1))):
  om S w0 M root (f'::f::ts) false (oj L f'.key (-1)) sv' w':=
 ⟨af,eh,h6,h.oJ.push hp aj.1,⟨⟨a,b,r,hr⟩,h.zP⟩,⟨nB,h.jB⟩,fun x hx=>by
  rcases List.mem_cons.1 hx with rfl|hx
  ·exact⟨hp,aj.1,aj.2⟩
  ·exact h.ps x hx,h.OZ,fun e=>by cases e⟩
theorem O0(k o n c:Nat)(hn:0<n∧n≤1000000000)(w:bTo):
  Calls Tryz.prog 168 #[bG k o n c] w fun e w'=>e=bb (lV (k,o,n))∧av w w w':=by
 have aa:(0:Int)<(n:Int):=by omega
 have ah:=hn.1;go_enter Tryz.func168,Tryz.ntmps168;go_wp2_with fail;have key:=cw w (aD (#[.pointer (some (ag k o)),I (n:Int)]) ya);exact dH (rq rfl _ _ w.heap.size _ _ _ _ rfl key ON rfl (by kernel_rfl)) rfl ⟨rfl,jq _ _⟩
theorem K0(a b:Int)(ha:0≤a∧a≤1000000000)(af:0≤b∧b≤1000000000)(r:Int)(hr:J (a+b=r))(w:bTo):Calls Tryz.prog 118 #[I a,I b] w fun e w'=>e=bb (I r)∧w'=w:=by rw[←hr.out];exact ZM a b ha af w
theorem TT{v:bTo}{j:Nat}{u x:ada}{cs:agv}{t:aui}(aF:v.heap[k]?=some (.cells cs t (0,0)))(h:j≠i)(hx:aw v k j x):(v.setCell (ag k i) u).cell? ⟨k,j,none⟩=some x:=by refine cell_of (c4 u aF) ?_;rw[zH,aK (fN h)];simpa[World.cell?,aF] using hx
theorem vb.len{root:bh}:∀{f:Fr} {ts:List Fr},vb root (f::ts)→ts.length+f.all.count≤root.count
 |f,[],h=>by rw[show f.all=root from h];simp
 |f,g::ts,h=>by obtain⟨⟨a,b,r,e⟩,ah⟩:=h;have ax:=vb.len ah;have bg:f.all.count<g.all.count:=(by rw[show g.all=g.pre.append g.rest from rfl,bh.count_append,e,bh.count_cons];omega);simp only[fK];omega
theorem ZX{g m:Nat}{e:aui}{xs:bTv}(h:w.ownsRow B e bn (bG g 0 n c) m xs):m≤c:=by
 rcases h.2 with ⟨aS,_⟩|⟨k,cap,cur,ab,bJ,aF,aa,_⟩
 ·cases aS
 ·injection ab with _ _ hc;rw[hc];exact aa
abbrev ZY:Value:=.agg #[ay 0,I 0,I 0]
theorem akL:(Tryz.prog.info? 296).map (fun i=>(i.zero,i.size,i.bytes))=some (some ZY,3,40):=by kernel_rfl
theorem akM(S:Jp)(s:bh)(k o c:Nat)(w:bTo)(cF:J (iG S w (some (ag k o)) s))(aj:0<s.len)(af:s.count≤100000000):
  Calls Tryz.prog 119 #[bG k o s.len c] w fun e w'=>e=bb (I (s.count:Int))∧av w w w':=by
 obtain⟨m,hm⟩:=az s.len;obtain⟨N,iE⟩:=az s.count;have bB:=U hm;have a1:=U iE;have mw:=cF.out.1;rw[iE] at af;rw[hm] at aj mw;have ZZ:m≤1000000000:=mw;rw[hm,iE];clear hm iE mw;have kP:=@run_makeMap Tryz.prog;have sc:((m:Int)==0)=false:=by rw[kO];omega
 go_enter Tryz.func119,Tryz.ntmps119;go_wp2_with fail;go_fit (O0 k o m c ⟨aj,ZZ⟩ _);rintro e V ⟨rfl,TU⟩;have x7:J (sw V w.heap.size []):=sw.below ⟨#[],0,cw w _,rfl⟩ TU;have aH:J (av w w V):=(jq _ _).trans (TU.mono (by simp));clear TU;obtain⟨cs,h1,_⟩:=cF.out.block (by rw[bB.out];exact aj);obtain⟨bE,O1,A2,eA,k7⟩:=TN x7.out (L:=[]) (fun x hx=>by simp at hx) (k,o,m) (ca:=cs) (aO h1 aH.out) (-1);have gN:=U A2;have cm:J (av w w bE):=aH.out.trans (eA.below _ aH.out.size fun k ab e=>by omega);clear A2 eA h1 k7;go_upto_region 5 with fail
 have lq:J (om S w w.heap.size s [⟨k,o,c,.nil,s⟩] false (oj [] (k,o,m) (-1)) (bG bE.heap.size 0 1 1) (bE.alloc (aD (#[ad (some (ag k o)) m c,I 0,I 0]) wQ))):=by
  have ju:(⟨k,o,c,.nil,s⟩:Fr).key=(k,o,m):=(by unfold Fr.key Fr.all;rw[←bB.out];rfl);have nG:(⟨k,o,c,.nil,s⟩:Fr).all=s:=rfl;have nR:vc S w [] []:=⟨fun k v h=>by simp[ky] at h,fun k v h=>by simp[ky] at h,fun x hx=>by simp at hx⟩;refine⟨cm.out.alloc cm.out.size _,?_,gN.out.below (ba _ _),?_,rfl,trivial,fun g aX=>?_,bD _,fun e=>by cases e⟩
  ·have h:=World.ownsRow_lit (base:=w.heap.size) (e:=wQ) (size:=3) bE #[bG k o m c,I 0,I 0] 1 cm.out.size (by decide) rfl;have e:qh [⟨k,o,c,.nil,s⟩]=[ad (some (ag k o)) m c,I 0,I 0]:=(by simp[qh,E9,Fr.all,bh.append,bB.out,bh.len,bh.count]);rw[e];exact h
  ·have h:=nR.push (f:=⟨k,o,c,.nil,s⟩) cF.out (by rw[nG,bB.out];exact aj);rw[ju] at h;exact h
  ·obtain rfl:g=⟨k,o,c,.nil,s⟩:=(by simpa using aX);rw[nG,bB.out];exact⟨cF.out,aj,ZZ⟩
 have Bh:J (i7 false [⟨k,o,c,.nil,s⟩]≤rD s+1):=bD _;generalize bE.alloc (.cells #[bG k o m c,I 0,I 0] wQ)=W at lq⊢;generalize bE.heap.size=G at lq⊢;clear cm gN aH x7 sc O1
 go_loopg [4] (rD s+1) (fun gk sv wr=>∃(f:Fr) (ts:List Fr) (hd:Bool) (L:List (iP×Int)) (aG:bTo),aG=wr∧J (om S w w.heap.size s (f::ts) hd L sv aG)∧J (i7 hd (f::ts)≤gk))
 case atStart=>exact⟨_,_,_,_,_,rfl,lq.out,Bh.out⟩
 case round=>
 obtain⟨f,ts,hd,L,aG,rfl,bq,br⟩:=hrel;obtain⟨n,hn⟩:=az ts.length;have sx:=U hn;have eh:=bq.out.row;rw[show (f::ts).length=n+1 by simp[hn]] at eh;obtain⟨g,cap,rfl⟩:=ownsRow_succ eh;obtain⟨cJ,aN,aR⟩:=KZ (z0:=ad (some (ag f.k f.o)) f.all.len f.c) (z1:=I (f.pre.len:Int)) (z2:=I (f.pre.count:Int)) eh (by rw[C6,hn]);have oc:∀j,aG.frozen? ⟨g,j,none⟩=false:=fun j=>eh.frozenAt j;obtain⟨Z0,TV,flb⟩:=bq.out.ps f (by simp);have O2:=U Z0;have hZ:=bq.out.zP.ZV;rw[a1.out] at hZ;have rA:f.all.len=f.pre.len+f.rest.len:=bh.uu _ _;have Z1:f.all.count=f.pre.count+f.rest.count:=bh.count_append _ _;obtain⟨al,CN⟩:=az f.all.len;obtain⟨pl,oH⟩:=az f.pre.len;obtain⟨gq,K1⟩:=az f.pre.count;have HP:=U CN;have rm:=U oH;have E':=U K1;rw[Z1] at hZ;rw[K1] at hZ aR;rw[oH] at aN;rw[CN] at cJ TV flb;have sy:al=pl+f.rest.len:=by rw[←CN,←oH];exact rA
 obtain⟨dj,eY⟩:=az (n+1);have gw:=U eY;have av7:(dj:Int)≤1000000000:=by have aa:=bq.out.zP.len;rw[hn,a1.out] at aa;omega
 have K2:=ZX eh;have Tk:(n:Int)≤(cap:Int):=by omega
 have akN:n≤cap:=by omega
 have akO:¬cap=0:=by omega
 have yc:(dj:Int)≤(cap:Int):=by omega
 rw[eY];have k6:bT ((dj:Int)-1)=(n:Int):=by rw[b4 _ (by omega)];omega
 have cW:(n:Int)<(dj:Int):=by omega
 have dz:n<dj:=by omega
 clear eh rA Z1 CN oH K1 eY hn Z0 K2;cases vd:f.rest with
 |nil=>
  rw[vd] at sy hZ;have O3:pl=al:=(by rw[sy];rfl);clear sy;subst O3;go_upto_region 6 with fail
  go_quiet (fail)
  have ji:=U (bq.out.below (gj (Below.refl _ _) nq));clear cJ aN aR oc bq;generalize aG.drewN nq=Z2 at ji⊢;have eh:=ji.out.row;rw[show (f::ts).length=n+1 by simp[sx.out]] at eh;obtain⟨cJ,aN,aR⟩:=KZ (z0:=ad (some (ag f.k f.o)) f.all.len f.c) (z1:=I (f.pre.len:Int)) (z2:=I (f.pre.count:Int)) eh (by rw[C6,sx.out]);rw[E'.out] at aR;rw[HP.out] at cJ;clear eh;go_wp2_with fail;go_fit (O0 f.k f.o pl f.c ⟨TV,flb⟩ _);rintro e hG ⟨rfl,eb⟩;have gK:=U (ji.out.below eb);obtain⟨cs,h1,_⟩:=O2.out.block (by rw[HP.out];exact TV);obtain⟨dJ,O1,Bn,p5,HQ⟩:=TN gK.out.map (fun x hx=>by obtain⟨cs,aF⟩:=gK.out.oJ.hq x hx;exact⟨cs,aO aF gK.out.aY⟩) (f.k,f.o,pl) (ca:=cs) (aO h1 gK.out.aY) (gq:Int);have ju:(f.k,f.o,pl)=f.key:=(by unfold Fr.key;rw[HP.out]);have K3:(gq:Int)=(f.all.count:Int):=(by unfold Fr.all;rw[vd,bh.append_nil,E'.out]);rw[ju,K3] at Bn;have xV:=U Bn;have kq:=U p5;have j5:=U K3;clear cJ aN aR eb h1 Bn p5 HQ ju K3 ji;go_upto_region 10 with fail;cases ts with
  |nil=>
   have l8:n=0:=sx.out.symm;subst l8;have aE:J ((gq:Int)=(N:Int)):=(by show _=_;rw[j5.out,show f.all=s from gK.out.zP,a1.out]);go_wp2_with fail;go_ret;exact⟨fU aE.out,gK.out.aY.trans (kq.out.below _ gK.out.aY.size fun k ab e=>by omega)⟩
  |cons g2 ts=>
   have l8:((n:Int)==0)=false:=(by have:=sx.out;rw[fK] at this;rw[kO];omega);have iL:=U (om.pop gK.out sx.out kq.out xV.out);have eg:J (i7 true (g2::ts)+1≤gk):=(by have aQ:i7 hd (f::g2::ts)≤gk:=br.out;have aa:1+(wO g2.rest+2+yb ts)≤i7 hd (f::g2::ts):=(by have e:i7 hd (f::g2::ts)=(if hd=true then wO f.rest+2 else rD f.rest+1)+(wO g2.rest+2+yb ts):=rfl;rw[e];split<;>omega);have ah:i7 true (g2::ts)=wO g2.rest+2+yb ts:=(by simp[i7]);show i7 true (g2::ts)+1≤gk;rw[ah];omega);go_wp2_with fail
   go_roundg (gk-1)<;>first
    |exact⟨g2,ts,true,_,_,rfl,iL.out,(by have h:i7 true (g2::ts)+1≤gk:=eg.out;omega:i7 true (g2::ts)≤gk-1)⟩
    |(have h:i7 true (g2::ts)+1≤gk:=eg.out;omega)
 |cons a b sub r=>
  rw[vd] at sy hZ;rw[bh.count_cons] at hZ;have b0:pl<al:=(by rw[sy];show pl<pl+(r.len+1);omega);have sa:((pl:Int)==(al:Int))=false:=(by rw[kO];omega);have ib:(pl:Int)<(al:Int):=(by omega);clear sy;have kp:iG S w (some (ag f.k f.o)) (f.pre.append (.cons a b sub r)):=(by rw[←vd];exact O2.out);obtain⟨hY,lK,ql,dl,qp,cL,he,_,_,qC,_,_,_,_,_,_,_,_,_,_,cy⟩:=kp.part rm.out;have A7:(⟨f.k,f.o,none⟩:Addr)=⟨hY,lK,none⟩:=C7 he;have qF:f.k=hY:=gb Addr.block A7;have pj:f.o=lK:=gb Addr.off A7;subst qF pj;obtain⟨fW,oa⟩:=az sub.len;have lr:=U oa;rw[oa] at cy;have wb:=U qC;have TW:=U cy;have Fa:=U hZ;clear kp he A7 qC cy oa;go_upto_region 6 with fail
  go_quiet (fail)
  have ji:=U (bq.out.below (gj (Below.refl _ _) nq));clear cJ aN aR oc bq;generalize aG.drewN nq=Z2 at ji⊢;have eh:=ji.out.row;rw[show (f::ts).length=n+1 by simp[sx.out]] at eh;obtain⟨cJ,aN,aR⟩:=KZ (z0:=ad (some (ag f.k f.o)) f.all.len f.c) (z1:=I (f.pre.len:Int)) (z2:=I (f.pre.count:Int)) eh (by rw[C6,sx.out]);rw[E'.out] at aR;rw[rm.out] at aN;rw[HP.out] at cJ;clear eh;have cy:=bM ji.out.aY TW.out;go_upto_region 12 with fail
  go_quiet (fail)
  have gK:=U (ji.out.below (gj (Below.refl _ _) nq));clear cJ aN aR cy ji;generalize Z2.drewN nq=hG at gK⊢;clear nq;by_cases aQ:fW=0
  ·subst aQ
   have akP:sub=.nil:=by
    cases sub with
    |nil=>rfl
    |cons _ _ _ _=>exact absurd lr.out (by simp[bh.len])
   have TX:sub.count=0:=(by rw[akP];rfl);have Fb:J (0≤(0:Int)∧(0:Int)≤1000000000):=(by show _∧_;decide);have eh:=gK.out.row;rw[show (f::ts).length=n+1 by simp[sx.out]] at eh;obtain⟨cJ,aN,aR⟩:=KZ (z0:=ad (some (ag f.k f.o)) f.all.len f.c) (z1:=I (f.pre.len:Int)) (z2:=I (f.pre.count:Int)) eh (by rw[C6,sx.out]);rw[E'.out] at aR;rw[rm.out] at aN;have oc:∀j,hG.frozen? ⟨g,j,none⟩=false:=fun j=>eh.frozenAt j;obtain⟨cur,gv⟩:=(wP eh).2;obtain⟨bN,zQ⟩:=az (1+(0:Int));obtain⟨z1,yd⟩:∃z:Int,((f.pre.count+(sub.count+1):Nat):Int)=z:=⟨_,rfl⟩;obtain⟨z2,ye⟩:∃z:Int,((f.pre.len+1:Nat):Int)=z:=⟨_,rfl⟩;have h1:=Fa.out;have TY:=E'.out;have TZ:=rm.out;have T0:=Fb.out;have K4:0≤bN∧bN≤1000000000:=(by omega);have K5:0≤(gq:Int)∧(gq:Int)≤1000000000:=(by omega);have K6:(gq:Int)+bN=z1:=(by omega);have Z3:bT ((pl:Int)+1)=z2:=(by rw[b4 _ (by omega)];omega);have uB:=U zQ;have KB:=U K4;have T1:=U K5;have mB:=U K6;have aI:∀u,(hG.setCell (ag g (n *3+2)) u).cell? ⟨g,n *3+1,none⟩=some (I (pl:Int)):=fun u=>TT gv (by omega) aN;have f1:∀u,(hG.setCell (ag g (n *3+2)) u).frozen? ⟨g,n *3+1,none⟩=false:=fun u=>cP (c4 u gv) _;have Fc:=om.OX gK.out sx.out vd;rw[yd,ye] at Fc;have T2:=U Fc;have eg:J (i7 false (⟨f.k,f.o,f.c,f.pre.append (.cons a b sub .nil),r⟩::ts)+1≤gk):=(by have aQ:i7 hd (f::ts)≤gk:=br.out;have e:i7 hd (f::ts)=(if hd=true then wO f.rest+2 else rD f.rest+1)+yb ts:=rfl;have aR:i7 false (⟨f.k,f.o,f.c,f.pre.append (.cons a b sub .nil),r⟩::ts)=(rD r+1)+yb ts:=rfl;show i7 false _+1≤gk;rw[aR];rw[e,vd] at aQ;simp only[wO,rD] at aQ;split at aQ<;>omega);clear eh gv zQ yd ye h1 TY TZ K4 K5 K6 Fc T0;go_upto_region 22 with fail
   go_region_with (first|(go_at_call 118;go_fit (K0 1 (0) ⟨by decide,by decide⟩ Fb.out bN uB _);rintro e bt ⟨rfl,rfl⟩)|(go_at_call 118;go_fit (K0 gq bN T1.out KB.out z1 mB _);rintro e bt ⟨rfl,rfl⟩)|fail)
   all_goals
    have c2:(hG.setCell (ag g (n *3+2)) (I z1)).drew.cell? ⟨g,n *3+1,none⟩=some (I (pl:Int)):=aI _;have f2:(hG.setCell (ag g (n *3+2)) (I z1)).drew.frozen? ⟨g,n *3+1,none⟩=false:=f1 _;have sz:J (om S w w.heap.size s (⟨f.k,f.o,f.c,f.pre.append (.cons a b sub .nil),r⟩::ts) false L (bG g 0 (n+1) cap) ((hG.setCell (ag g (n *3+2)) (I z1)).drew.setCell (ag g (n *3+1)) (I z2))):=T2.out.below (Below.refl _ _).drew;clear aI f1 cJ aN aR oc;generalize (hG.setCell (ag g (n *3+2)) (I z1)).drew=Zx at c2 f2 sz⊢;rw[gw.out] at sz;go_wp2_with fail
    go_roundg (gk-1)<;>first
     |exact⟨_,ts,false,L,_,rfl,sz.out,(by have h:i7 false (⟨f.k,f.o,f.c,f.pre.append (.cons a b sub .nil),r⟩::ts)+1≤gk:=eg.out;omega:i7 false (⟨f.k,f.o,f.c,f.pre.append (.cons a b sub .nil),r⟩::ts)≤gk-1)⟩
     |(have h:i7 false (⟨f.k,f.o,f.c,f.pre.append (.cons a b sub .nil),r⟩::ts)+1≤gk:=eg.out;omega)
  ·have O4:0<fW:=(by omega);have Fe:(0:Int)<(fW:Int):=(by omega);have K7:fW≤1000000000:=(by rw[←lr.out];exact wb.out.p.1);have aC:=wb.out.p;obtain⟨a8,cE,x',rfl,akQ,pC,_⟩:=aC.2 (by show 0<sub.len;rw[lr.out];exact O4);have Kb:J (iG S w (some (ag a8 cE)) sub):=aC;have O5:=U pC;have qi:decide ((fW:Int)> 0)=true:=eH Fe;clear aC pC akQ;go_wp2_with fail;go_fit (O0 a8 cE fW cL ⟨O4,K7⟩ _);rintro e kN ⟨rfl,e6⟩;have nI:=U (gK.out.below e6);clear e6 gK;have K8:=akH nI.out.map (fun x hx=>by obtain⟨cs,aF⟩:=nI.out.oJ.hq x hx;exact⟨cs,aO aF nI.out.aY⟩) (a8,cE,fW) (aO O5.out nI.out.aY);obtain⟨akR,T3⟩:=az (ky L (a8,cE,fW));have Z4:=U T3;rw[T3] at K8;clear T3;cases akR with
   |some v=>
    have O6:v=(sub.count:Int):=(by have aa:ky L (a8,cE,sub.len)=some v:=(by rw[lr.out];exact Z4.out);refine nI.out.oJ.found nI.out.zP (fun g aX=>(nI.out.ps g aX).1) Kb.out ?_ aa;rw[show f.all=f.pre.append f.rest from rfl,bh.count_append,vd,bh.count_cons];omega);have Fb:J (0≤v∧v≤1000000000):=(by have:=Fa.out;show _∧_;omega);have wR:=U O6;have tP:(v== -1)=false:=(by rw[kO];omega);have Z5:(Instr.lookup OV (.map (some w.heap.size)) (lV (a8,cE,fW)) true).run Tryz.prog kN=.ok (.tuple #[I v,ai true]) kN:=K8;clear K8 O6;have eh:=nI.out.row;rw[show (f::ts).length=n+1 by simp[sx.out]] at eh;obtain⟨cJ,aN,aR⟩:=KZ (z0:=ad (some (ag f.k f.o)) f.all.len f.c) (z1:=I (f.pre.len:Int)) (z2:=I (f.pre.count:Int)) eh (by rw[C6,sx.out]);rw[E'.out] at aR;rw[rm.out] at aN;have oc:∀j,kN.frozen? ⟨g,j,none⟩=false:=fun j=>eh.frozenAt j;obtain⟨cur,gv⟩:=(wP eh).2;obtain⟨bN,zQ⟩:=az (1+(v:Int));obtain⟨z1,yd⟩:∃z:Int,((f.pre.count+(sub.count+1):Nat):Int)=z:=⟨_,rfl⟩;obtain⟨z2,ye⟩:∃z:Int,((f.pre.len+1:Nat):Int)=z:=⟨_,rfl⟩;have h1:=Fa.out;have TY:=E'.out;have TZ:=rm.out;have T0:=Fb.out;have O6:=wR.out;have K4:0≤bN∧bN≤1000000000:=(by omega);have K5:0≤(gq:Int)∧(gq:Int)≤1000000000:=(by omega);have K6:(gq:Int)+bN=z1:=(by omega);have Z3:bT ((pl:Int)+1)=z2:=(by rw[b4 _ (by omega)];omega);have uB:=U zQ;have KB:=U K4;have T1:=U K5;have mB:=U K6;have aI:∀u,(kN.setCell (ag g (n *3+2)) u).cell? ⟨g,n *3+1,none⟩=some (I (pl:Int)):=fun u=>TT gv (by omega) aN;have f1:∀u,(kN.setCell (ag g (n *3+2)) u).frozen? ⟨g,n *3+1,none⟩=false:=fun u=>cP (c4 u gv) _;have Fc:=om.OX nI.out sx.out vd;rw[yd,ye] at Fc;have T2:=U Fc;have eg:J (i7 false (⟨f.k,f.o,f.c,f.pre.append (.cons a b sub .nil),r⟩::ts)+1≤gk):=(by have aQ:i7 hd (f::ts)≤gk:=br.out;have e:i7 hd (f::ts)=(if hd=true then wO f.rest+2 else rD f.rest+1)+yb ts:=rfl;have aR:i7 false (⟨f.k,f.o,f.c,f.pre.append (.cons a b sub .nil),r⟩::ts)=(rD r+1)+yb ts:=rfl;show i7 false _+1≤gk;rw[aR];rw[e,vd] at aQ;simp only[wO,rD] at aQ;split at aQ<;>omega);clear eh gv zQ yd ye h1 TY TZ K4 K5 K6 Fc T0 O6;go_upto_region 22 with fail
    go_region_with (first|(go_at_call 118;go_fit (K0 1 (v) ⟨by decide,by decide⟩ Fb.out bN uB _);rintro e bt ⟨rfl,rfl⟩)|(go_at_call 118;go_fit (K0 gq bN T1.out KB.out z1 mB _);rintro e bt ⟨rfl,rfl⟩)|fail)
    all_goals
     have c2:(kN.setCell (ag g (n *3+2)) (I z1)).drew.cell? ⟨g,n *3+1,none⟩=some (I (pl:Int)):=aI _;have f2:(kN.setCell (ag g (n *3+2)) (I z1)).drew.frozen? ⟨g,n *3+1,none⟩=false:=f1 _;have sz:J (om S w w.heap.size s (⟨f.k,f.o,f.c,f.pre.append (.cons a b sub .nil),r⟩::ts) false L (bG g 0 (n+1) cap) ((kN.setCell (ag g (n *3+2)) (I z1)).drew.setCell (ag g (n *3+1)) (I z2))):=T2.out.below (Below.refl _ _).drew;clear aI f1 cJ aN aR oc;generalize (kN.setCell (ag g (n *3+2)) (I z1)).drew=Zx at c2 f2 sz⊢;rw[gw.out] at sz;go_wp2_with fail
     go_roundg (gk-1)<;>first
      |exact⟨_,ts,false,L,_,rfl,sz.out,(by have h:i7 false (⟨f.k,f.o,f.c,f.pre.append (.cons a b sub .nil),r⟩::ts)+1≤gk:=eg.out;omega:i7 false (⟨f.k,f.o,f.c,f.pre.append (.cons a b sub .nil),r⟩::ts)≤gk-1)⟩
      |(have h:i7 false (⟨f.k,f.o,f.c,f.pre.append (.cons a b sub .nil),r⟩::ts)+1≤gk:=eg.out;omega)
   |none=>
    have Z5:(Instr.lookup OV (.map (some w.heap.size)) (lV (a8,cE,fW)) true).run Tryz.prog kN=.ok (.tuple #[I 0,ai false]) kN:=K8;clear K8
    have akS:J (hd=false):=by
     show hd=false;cases hd with
     |false=>rfl
     |true=>
      exfalso;obtain⟨f',us,h2,bd,av8,gm,tM,uG,c',e,aR,_,cA,hN⟩:=nI.out.ab rfl;injection e with mC kR;subst mC;rw[vd] at aR;injection aR with _ _ uV _;subst uV;have lD:=TW.out;rw[rm.out,lD] at cA;injection cA with cA;injection cA with j8 _ _;injection j8 with j8;injection j8 with tG TJ;subst tG TJ;apply hN;rw[lr.out];exact Z4.out
    go_upto_region 18 with fail;go_wp2_with fail;go_fit (O0 a8 cE fW cL ⟨O4,K7⟩ _);rintro e CJ ⟨rfl,gB⟩;have iL:=U (nI.out.below gB);clear gB nI Z5;obtain⟨dJ,O1,Bn,p5,HQ⟩:=TN iL.out.map (fun x hx=>by obtain⟨cs,aF⟩:=iL.out.oJ.hq x hx;exact⟨cs,aO aF iL.out.aY⟩) (a8,cE,fW) (ca:=x') (aO O5.out iL.out.aY) (-1);have xV:=U Bn;have dx:J (av w w dJ):=iL.out.aY.trans (p5.below _ iL.out.aY.size fun k ab e=>by omega);have T4:J (dJ.ownsRow w.heap.size wQ 3 (bG g 0 (n+1) cap) (n+1) (qh (f::ts))):=(by have h:=iL.out.row;rw[show (f::ts).length=n+1 by simp[sx.out]] at h;exact TQ h p5 fun k aR cA=>TR iL.out.map h (cA ▸ aR));rw[gw.out] at T4;clear Bn p5 HQ;obtain⟨i0,hi,cU,yd,ye⟩:=info_parts akL;have bY:=U (And.intro hi (And.intro cU (And.intro yd ye)));clear hi cU yd ye;have hP:J ((dJ.alloc (aD (#[ad (some (ag a8 cE)) fW cL,I 0,I 0]) wQ)).ownsRow w.heap.size wQ 3 (bG g 0 dj cap) dj (qh (f::ts))):=T4.out.alloc _;have av9:=dx.out.size;go_wp2_with (at_builtin;refine zE _ rfl _ _ _ rfl w.heap.size wQ i0 ZY 3 40 Tryz.underlying297 bY.out.1 bY.out.2.1 bY.out.2.2.1 bY.out.2.2.2 rfl (by omega) (bG g 0 dj cap) dj _ (by rfl) hP.out (ag dJ.heap.size 0) 1 1 [bG a8 cE fW cL,I 0,I 0] (by rfl) (by rfl) (jW (cs:= #[ad (some (ag a8 cE)) fW cL,I 0,I 0]) (t:=wQ) (fr:=(0,0)) (gi dJ _)) (by simp[Value.oneCell']) (by omega) (by unfold maxLen;omega) (by omega) (by simp;omega) (dJ.heap.size+1) (by simp) ?_;intro gg il bt cM dW e0 h5);have K9:w.heap.size≤g:=(wP T4.out).1;have TS:w.heap.size≠g:=(fun e=>by have h:=TR iL.out.map iL.out.row;rw[←gw.out] at cM;exact h (by rw[e];rfl));have T5:aL (fun b=>b≠g) (dJ.alloc (aD (#[ad (some (ag a8 cE)) fW cL,I 0,I 0]) wQ)) bt:=aL.grown dW fun b e h=>h (by simpa[Value.ownBlock] using e.symm)
    have sz:J (om S w w.heap.size s (⟨a8,cE,cL,.nil,sub⟩::f::ts) false (oj L (a8,cE,fW) (-1)) (bG gg 0 (dj+1) il) bt):=by
     have ju:(⟨a8,cE,cL,.nil,sub⟩:Fr).key=(a8,cE,fW):=(by unfold Fr.key Fr.all;rw[←lr.out];rfl);have h:=om.push (f':=⟨a8,cE,cL,.nil,sub⟩) (sv':=ad (some (ag gg 0)) (dj+1) il) (w':=bt) iL.out (a:=a) (b:=b) (r:=r) vd rfl ?_ Kb.out ⟨?_,?_⟩ ?_ ?_ ?_
     ·rw[ju] at h;exact h
     ·rw[rm.out,show (⟨a8,cE,cL,.nil,sub⟩:Fr).all.len=fW from lr.out];exact TW.out
     ·rw[show (⟨a8,cE,cL,.nil,sub⟩:Fr).all.len=fW from lr.out];exact O4
     ·rw[show (⟨a8,cE,cL,.nil,sub⟩:Fr).all.len=fW from lr.out];exact K7
     ·exact (dx.out.alloc dx.out.size _).trans (T5.below _ (dx.out.alloc dx.out.size _).size fun b af e=>by omega)
     ·have e:qh (⟨a8,cE,cL,.nil,sub⟩::f::ts)=qh (f::ts)++[ad (some (ag a8 cE)) fW cL,I 0,I 0]:=(by show qh (f::ts)++E9 _=_;unfold E9;rw[show (⟨a8,cE,cL,.nil,sub⟩:Fr).all.len=fW from lr.out];rfl);rw[e,show (⟨a8,cE,cL,.nil,sub⟩::f::ts:List Fr).length=dj+1 by simp[sx.out,gw.out]];exact cM
     ·rw[ju];exact (xV.out.below (ba _ _)).keep T5 TS
    have eg:J (i7 false (⟨a8,cE,cL,.nil,sub⟩::f::ts)+1≤gk):=(by have aQ:i7 hd (f::ts)≤gk:=br.out;have aF:hd=false:=akS.out;subst aF;have e:i7 false (f::ts)=rD f.rest+1+yb ts:=rfl;have aR:i7 false (⟨a8,cE,cL,.nil,sub⟩::f::ts)=(rD sub+1)+(wO f.rest+2+yb ts):=rfl;show i7 false (⟨a8,cE,cL,.nil,sub⟩::f::ts)+1≤gk;rw[aR,vd];rw[e,vd] at aQ;simp only[wO,rD] at aQ⊢;omega);clear cM dW e0 h5 T5
    go_roundg (gk-1)<;>first
     |exact⟨_,_,false,_,_,rfl,sz.out,(by have h:i7 false (⟨a8,cE,cL,.nil,sub⟩::f::ts)+1≤gk:=eg.out;omega:i7 false (⟨a8,cE,cL,.nil,sub⟩::f::ts)≤gk-1)⟩
     |(have h:i7 false (⟨a8,cE,cL,.nil,sub⟩::f::ts)+1≤gk:=eg.out;omega)
theorem K'(S:Jp)(b:dL)(s:bh)(hs:s.count≤100000000)(pl:aya)(n cl:Nat)(pp:aya)(cp:Nat)(w:bTo)(cF:J (iG S w pp s)):
  Calls Tryz.prog 79 #[.agg #[I b.k,I b.a.1,I b.a.2,I b.b.1,I b.b.2,I b.c.1,I b.c.2,I b.r,ad pl n cl,ad pp s.len cp]] w fun e w'=>e=bb (I ((s.count+1:Nat):Int))∧av w w w':=by
 rcases GV s.len with aQ|aQ
 ·have:s=.nil:=by
   cases s with
   |nil=>rfl
   |cons _ _ _ _=>simp[bh.len] at aQ
  subst this;exact aku _ _ _ _ _ _ _ _ pl n cl pp cp w
 ·obtain⟨k,o,cs,rfl,_,_,_⟩:=cF.out.2 aQ;have bq:=U (fun (Z:bTo) (eU:av w w Z)=>akM S s k o cp Z (U (cF.out.below eU)) aQ hs);obtain⟨m,hm⟩:=az s.len;obtain⟨N,iE⟩:=az s.count;obtain⟨z,bx⟩:∃z:Int,((N+1:Nat):Int)=z:=⟨_,rfl⟩;rw[iE] at hs;rw[hm,iE] at bq;rw[hm,iE,bx];have bL:=U (K0 1 N ⟨by decide,by decide⟩ ⟨by omega,by omega⟩ z (show _=_ by omega));clear hm iE bx;go_enter Tryz.func79,Tryz.ntmps79;go_wp2_with fail;go_fit (bq.out _ (jq _ _));rintro e V ⟨rfl,af⟩;have aH:J (av w w V):=(jq _ _).trans (af.mono (jq _ _).size);clear af;go_wp2_with fail;go_fit (bL.out _);rintro e hG ⟨rfl,rfl⟩;go_wp2_with fail;go_ret;exact⟨rfl,aH.out⟩
def O7:bh→Prop
 |.nil=>True
 |.cons _ b s r=>(∀c∈b.l,0<c.length)∧O7 s∧O7 r
def Full(s:ey):Prop:=(∀c∈s.b.l,0<c.length)∧O7 s.p
structure mj where
 B:Nat
 o:Nat
 b:dL
 s:bh
def HR(S:Jp)(w0 x:bTo)(d:mj):Prop:=∃cs t pl cl pp cp,x.heap[d.B]?=some (.cells cs t (0,0))∧(t=dh∨t=fb)∧(cs.toList.drop d.o).take 10=l5 d.b (ad pl d.b.l.length cl) (ad pp d.s.len cp)∧dY S w0 pl cl pp cp ⟨d.b,d.s⟩
def O8(R:Jp)(x:bTo)(d:mj):Prop:=∃cs t pl cl pp cp,x.heap[d.B]?=some (.cells cs t (0,0))∧(cs.toList.drop d.o).take 10=l5 d.b (ad pl d.b.l.length cl) (ad pp d.s.len cp)∧dY R x pl cl pp cp ⟨d.b,d.s⟩
def O9(d e:mj):Prop:=d.B≠e.B∨d.o+10≤e.o∨e.o+10≤d.o
def O'(ps:List mj)(k i:Nat):Prop:=∃d∈ps,d.B=k∧(i=d.o+8∨i=d.o+9)
abbrev oW:TypeId:=187
structure iQ(ps:List mj)(x y:bTo):Prop where
 size:x.heap.size≤y.heap.size
 cells:∀k cs t,x.heap[k]?=some (.cells cs t (0,0))→t≠oW→∃kM,y.heap[k]?=some (.cells kM t (0,0))∧kM.size=cs.size∧∀i,¬O' ps k i→kM[i]?=cs[i]?
theorem iQ.refl(ps:List mj)(x:bTo):iQ ps x x:=⟨bD _,fun k cs t h _=>⟨cs,h,rfl,fun _ _=>rfl⟩⟩
theorem iQ.trans{ps fg:List mj}{x y z:bTo}(h:iQ ps x y)(g:iQ fg y z)(aC:∀k i,k<x.heap.size→O' fg k i→O' ps k i):iQ ps x z where
 size:=dX h.size g.size
 cells:=fun k cs t aF bH=>by have aj:=lt_of_heap aF;obtain⟨TK,aa,ah,ax⟩:=h.cells k cs t aF bH;obtain⟨x',g1,g2,g3⟩:=g.cells k TK t aa bH;exact⟨x',g1,g2.trans ah,fun i hi=>(g3 i fun CO=>hi (aC k i aj CO)).trans (ax i hi)⟩
variable{ps:List mj}
theorem iQ.akT{T:Jp}(h:aL (fun k=>¬T k) x y)(fh:∀k cs t,T k→x.heap[k]?=some (.cells cs t (0,0))→t=oW):iQ ps x y:=⟨h.size,fun k cs t aF bH=>⟨cs,h.get (fun ab=>bH (fh k cs t ab aF)) aF,rfl,fun _ _=>rfl⟩⟩
theorem iQ.dM(h:av x x y):iQ ps x y:=⟨h.size,fun k cs t aF _=>⟨cs,aO aF h,rfl,fun _ _=>rfl⟩⟩
theorem iQ.set(u:ada)(h:O' ps k i):iQ ps x (x.setCell (ag k i) u) where
 size:=by simp[World.setCell]
 cells:=fun tM cs t aF _=>by
  by_cases e:tM=k
  ·subst e;refine⟨cs.setIfInBounds i u,c4 u aF,by simp,fun j cB=>?_⟩;rw[zH,aK];rintro rfl;exact cB h
  ·exact⟨cs,(jg e).trans aF,rfl,fun _ _=>rfl⟩
theorem iQ.get(h:iQ ps x y){cs:agv}{t:aui}(aF:x.heap[k]?=some (.cells cs t (0,0)))(bH:t≠oW)(hn:∀d∈ps,d.B≠k):y.heap[k]?=some (.cells cs t (0,0)):=by
 obtain⟨kM,aa,ah,ax⟩:=h.cells k cs t aF bH;have e:kM=cs:=by apply SH;intro i;exact ax i fun⟨d,hd,e,_⟩=>hn d hd e
 rw[aa,e]
theorem hX.fr{R:Jp}{p:aya}{l:List bp}(h:hX R x p l)(hf:iQ ps x y)(hn:∀k,R k→∀d∈ps,d.B≠k):hX R y p l:=by refine⟨h.1,fun aj=>?_⟩;obtain⟨b,o,cs,rfl,bJ,aF,hc⟩:=h.2 aj;exact⟨b,o,cs,rfl,bJ,hf.get aF (by decide) (hn b bJ),hc⟩
theorem iF.fr{R:Jp}{ps:List mj}{x y:bTo}{p:aya}{l:List (List bp)}(h:iF R x p l)(hf:iQ ps x y)(hn:∀k,R k→∀d∈ps,d.B≠k):iF R y p l:=by refine⟨h.1,fun aj=>?_⟩;obtain⟨b,o,cs,rfl,bJ,aF,hc⟩:=h.2 aj;refine⟨b,o,cs,rfl,bJ,hf.get aF (by decide) (hn b bJ),fun i hi=>?_⟩;obtain⟨q,c,aC,q8,bl⟩:=hc i hi;exact⟨q,c,aC,q8,bl.fr hf hn⟩
def kids(N:Nat):Nat→bh→List mj
 |_,.nil=>[]
 |m,.cons _ b s r=>⟨N,m+1,b,s⟩::kids N (m+11) r
theorem La(N:Nat):∀(s:bh) (m:Nat),(kids N m s).length=s.len
 |.nil,_=>rfl
 |.cons _ _ _ r,m=>by simp[kids,bh.len,La N r]
theorem Pa{N:Nat}:∀{s:bh} {m:Nat} {d:mj},d∈kids N m s→d.B=N∧m+1≤d.o∧d.o+10≤m+s.len *11
 |.nil,m,d,h=>by simp[kids] at h
 |.cons a b s r,m,d,h=>by
  rcases List.mem_cons.1 h with rfl|h
  ·refine⟨rfl,bD _,?_⟩;show m+1+10≤m+(r.len+1) *11;omega
  ·obtain⟨aa,ah,ax⟩:=Pa h;refine⟨aa,by omega,?_⟩;show d.o+10≤m+(r.len+1) *11;omega
theorem Z6(N:Nat):∀(s:bh) (m:Nat),(kids N m s).Pairwise O9
 |.nil,_=>List.Pairwise.nil
 |.cons a b s r,m=>by refine List.Pairwise.cons (fun d hd=>?_) (Z6 N r (m+11));obtain⟨aa,ah,ax⟩:=Pa hd;exact .inr (.inl (by show m+1+10≤d.o;omega))
theorem akU(l:bTv)(m:Nat)(v:ada)(h:l[m]?=some v)(k:Nat):(l.drop m).take (k+1)=v::(l.drop (m+1)).take k:=by obtain⟨aj,rfl⟩:=List.getElem?_eq_some_iff.1 h;rw[l3 aj,List.take_succ_cons]
theorem Z7{S:Jp}{w0 x:bTo}{N:Nat}{cs:agv}(aF:x.heap[N]?=some (.cells cs fb (0,0))):∀{s:bh} {m:Nat},dS S w0 s (cs.toList.drop m)→∀d∈kids N m s,HR S w0 x d
 |.nil,m,h,d,hd=>by simp[kids] at hd
 |.cons a b s r,m,h,d,hd=>by
  rcases List.mem_cons.1 hd with rfl|hd
  ·obtain⟨pl,cl,pp,cp,aa,hs⟩:=h.head;refine⟨cs,fb,pl,cl,pp,cp,aF,.inr rfl,?_,hs⟩;show (cs.toList.drop (m+1)).take 10=_;have ah:=gb (List.drop 1) aa;rw[Ki,pd] at ah;exact ah
  ·refine Z7 aF (m:=m+11) ?_ d hd;have:=h.tail
   rwa [pd] at this
theorem Z8{R:Jp}{x:bTo}{N:Nat}{cs kM:agv}{S:Jp}{w0:bTo}(aF:x.heap[N]?=some (.cells kM fb (0,0))):∀{s:bh} {m:Nat},dS S w0 s (cs.toList.drop m)→(∀i,i%11=m%11→m≤i→i<m+s.len *11→kM[i]?=cs[i]?)→(∀d∈kids N m s,O8 R x d)→dS R x s (kM.toList.drop m)
 |.nil,m,h,hc,hd=>trivial
 |.cons a b s r,m,h,hc,hd=>by
  obtain⟨tz,awa,awb,awc,aa,_⟩:=h.head;obtain⟨x',t,pl,cl,pp,cp,aN,aR,hs⟩:=hd ⟨N,m+1,b,s⟩ (by simp[kids]);have Pb:x.heap[N]?=some (.cells x' t (0,0)):=aN;rw[aF] at Pb;injection Pb with Pb;injection Pb with cA _;subst cA;have hm:kM[m]?=some (ai a):=(by rw[hc m rfl (bD _) (by show m<m+(r.len+1) *11;omega)];have ax:=gb (fun l:List Value=>l[0]?) aa;simp only[ti,AF,List.getElem?_cons_zero] at ax;simpa using ax);refine dS.mk (pl:=pl) (cl:=cl) (pp:=pp) (cp:=cp) ?_ hs ?_
  ·rw[akU kM.toList m (ai a) (by simpa using hm) 10];exact gb _ aR
  ·rw[pd];refine Z8 aF (cs:=cs) (m:=m+11) (S:=S) (w0:=w0) ?_ (fun i bg b7 c0=>hc i (by omega) (by omega) (by show i<m+(r.len+1) *11;omega)) (fun d fV=>hd d (by simp[kids,fV]));have:=h.tail
   rwa [pd] at this
theorem Z9{N:Nat}:∀{s:bh} {m:Nat},O7 s→∀d∈kids N m s,Full ⟨d.b,d.s⟩
 |.nil,m,h,d,hd=>by simp[kids] at hd
 |.cons a b s r,m,h,d,hd=>by
  rcases List.mem_cons.1 hd with rfl|hd
  ·exact⟨h.1,h.2.1⟩
  ·exact Z9 h.2.2 d hd
abbrev Pc:Obj:=.cells #[I 0,I 0,I 0,I 0,I 0,I 0,I 0,I 0,ay 0,ay 0] dh
abbrev sA(d:mj):Value:=.pointer (some (ag d.B d.o))
structure yf(S:Jp)(w0:bTo)(root:mj)(ps:List mj)(sv:ada)(x:bTo):Prop where
 aY:av w0 w0 x
 row:x.ownsRow w0.heap.size oW 1 sv ps.length (ps.map sA)
 at_:∀d∈ps,HR S w0 x d
 low:∀d∈ps,w0.heap.size≤d.B∧d.B≠w0.heap.size+1
 full:∀d∈ps,Full ⟨d.b,d.s⟩
 ap:ps.Pairwise O9
 res:x.heap[w0.heap.size+1]?=some Pc
 Z':∀HS,iQ ps x HS→(∀d∈ps,O8 (fun k=>w0.heap.size≤k∧k≠w0.heap.size+1) HS d)→O8 (fun k=>w0.heap.size≤k∧k≠w0.heap.size+1) HS root
theorem aaa{cs kM:agv}{o:Nat}(h:∀i,o≤i→i<o+10→kM[i]?=cs[i]?):(kM.toList.drop o).take 10=(cs.toList.drop o).take 10:=by
 apply Hl;intro n;simp only[ti,AF];by_cases hn:n<10
 ·rw[aT hn,aT hn];simpa using h (o+n) (by omega) (by omega)
 ·rw[aK hn,aK hn]
variable{root:mj}
theorem yf.next{d:mj}{sv sv':ada}{ql pn:aya}{dl N cn:Nat}{T6 csN:agv}{Ff:aui}{R1:Jp}(h:yf S w0 root (ps++[d]) sv x)(aab:iQ (ps++[d]) x y)(af:av w0 w0 y)(eh:y.ownsRow w0.heap.size oW 1 sv' (ps++kids N 0 d.s).length ((ps++kids N 0 d.s).map sA))
  (e0:∀e∈ps,HR S w0 y e) (dk:y.heap[w0.heap.size+1]?=some Pc) (hd:y.heap[d.B]?=some (.cells T6 Ff (0,0))) (Pd:Ff≠oW) (fV:(T6.toList.drop d.o).take 10=l5 d.b (ad ql d.b.l.length dl) (ad pn d.s.len cn))
  (hc:iF R1 y ql d.b.l) (qc:∀k,R1 k→(w0.heap.size≤k∧k≠w0.heap.size+1)∧k≠N∧∀e∈ps,e.B≠k) (ve:d.b.l.length≤dl) (K3:d.s.len≤cn) (K7:d.s.len≤nA) (awd:x.heap.size≤N)
  (iE:0<d.s.len→pn=some ⟨N,0,none⟩∧y.heap[N]?=some (.cells csN fb (0,0))∧dS S w0 d.s csN.toList):yf S w0 root (ps++kids N 0 d.s) sv' y:=by
 have pD:=lt_of_heap h.res;have b0:∀e∈ps++[d],e.B<x.heap.size:=fun e he=>by obtain⟨cs,t,_,_,_,_,aa,_⟩:=h.at_ e he;exact lt_of_heap aa
 have Lb:∀e∈kids N 0 d.s,e.B=N:=fun e he=>(Pa he).1;have Pe:=h.full d (by simp);have O3:=List.pairwise_append.1 h.ap;refine⟨af,eh,fun e he=>?_,fun e he=>?_,fun e he=>?_,?_,dk,fun HS HT zA=>?_⟩
 ·rcases List.mem_append.1 he with he|he
  ·exact e0 e he
  ·rcases GV d.s.len with aQ|aQ
   ·have:(kids N 0 d.s).length=0:=(by rw[La,aQ]);rw[qz this] at he;simp at he
   ·obtain⟨_,ah,ax⟩:=iE aQ;exact Z7 ah (m:=0) ax e he
 ·rcases List.mem_append.1 he with he|he
  ·exact h.low e (by simp[he])
  ·rw[Lb e he];have:=h.aY.size;omega
 ·rcases List.mem_append.1 he with he|he
  ·exact h.full e (by simp[he])
  ·exact Z9 Pe.2 e he
 ·refine List.pairwise_append.2 ⟨O3.1,Z6 N d.s 0,fun e he f hf=>.inl ?_⟩;rw[Lb f hf];have:=b0 e (by simp[he]);omega
 ·have T7:∀k,R1 k→∀e∈ps++kids N 0 d.s,e.B≠k:=fun k ab e he=>by
   obtain⟨_,ah,ax⟩:=qc k ab;rcases List.mem_append.1 he with he|he
   ·exact ax e he
   ·rw[Lb e he];exact fN ah
  refine h.Z' HS (aab.trans HT fun k i ab ⟨e,he,aN,aR⟩=>?_) fun e he=>?_
  ·rcases List.mem_append.1 he with he|he
   ·exact⟨e,by simp[he],aN,aR⟩
   ·rw[Lb e he] at aN;omega
  ·rcases List.mem_append.1 he with he|he
   ·exact zA e (by simp[he])
   ·obtain rfl:e=d:=(by simpa using he);obtain⟨kM,g1,g2,g3⟩:=HT.cells e.B T6 Ff hd Pd;refine⟨kM,Ff,ql,dl,pn,cn,g1,(aaa fun i aa ah=>g3 i fun⟨f,hf,f1,f2⟩=>?_).trans fV,⟨(hc.fr HT T7).mono fun k _ ab=>(qc k ab).1,⟨K7,fun aQ=>?_⟩,ve,K3⟩⟩
    ·rcases List.mem_append.1 hf with hf|hf
     ·rcases O3.2.2 f hf e (by simp) with b7|b7|b7
      ·exact b7 f1
      ·rcases f2 with rfl|rfl<;>omega
      ·rcases f2 with rfl|rfl<;>omega
     ·rw[Lb f hf] at f1;have:=b0 e (by simp);omega
    ·obtain⟨dK,e',n3⟩:=iE aQ;obtain⟨x',bP,a8,oi⟩:=HT.cells N csN fb e' (by decide);refine⟨N,0,x',dK,?_,bP,?_⟩
     ·have:=h.aY.size;show w0.heap.size≤N∧N≠w0.heap.size+1;omega
     ·refine Z8 bP (cs:=csN) (m:=0) (S:=S) (w0:=w0) n3 (fun i aa ah bg=>oi i fun⟨f,hf,f1,f2⟩=>?_) fun f hf=>zA f (by simp[hf]);rcases List.mem_append.1 hf with hf|hf
      ·have:=b0 f (by simp[hf]);omega
      ·obtain⟨_,ch,ep⟩:=Pa hf
       have hm:∀{s:bh} {m:Nat},f∈kids N m s→f.o%11=(m+1)%11:=by
        intro s
        induction s with
        |nil=>intro m hf;simp[kids] at hf
        |cons a b s r _ dc=>
         intro m hf;rcases List.mem_cons.1 hf with rfl|hf
         ·rfl
         ·rw[dc hf];omega
       have:=hm hf;rcases f2 with rfl|rfl<;>omega
theorem yf.fin{sv:ada}(h:yf S w0 root [] sv x):O8 (fun k=>w0.heap.size≤k∧k≠w0.heap.size+1) x root:=h.Z' x (iQ.refl _ _) fun d hd=>by simp at hd
end dE
