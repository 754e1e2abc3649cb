/- Lemmas. -/
import Derived.Test.YtkaiaijcieaofaaGreatDoorQ21
set_option linter.all false
set_option maxRecDepth 100000
set_option maxHeartbeats 12800000
namespace Go.Proofs.YtkaiaijcieaofaaGreatDoor
abbrev PN:=@Addr.mk.injEq
abbrev U3:=@Proofs.Tryz.underlying131
abbrev qn:=@Nat.ne_of_lt
abbrev U4:=@Proofs.Tryz.underlying141
namespace c1
open Go.RowKit ef
open cB (C dN)
open gK (iO iN dd fG)
theorem am3:(Tryz.prog.info? 204).map (fun i=>(i.zero,i.size,i.bytes))=some (some (.agg #[aa ⟨#[]⟩,J 0]),2,40):=by kernel_rfl
theorem dV.am4{w0:aeo}{P:Nat}{R:afp}{m:Nat}{L:nm}{fu:Int}{cv ov:ada}{cx ox:aev}{p:cy}{X Y bZ:aeo}{n gg c:Nat}{a:mo}{q:Ja}{d:Nat}
  (h:dV w0 P R m L fu cv ov cx ox p X) (hn:p.gM.length=n) (jy:an X X Y) (aI:Y.grownBy bZ L.eZ.ownBlock) (ct:bZ.ownsRow w0.heap.size pP 2 (ag gg 0 (n+1) c) (n+1) (L.bx++[aa ⟨a.name.toArray⟩,ad q a.b.length d])) (hw:some gg=L.eZ.ownBlock∨Y.heap.size≤gg) (ay:fG 0 w0 q a.b):
  dV w0 P R m {L with eZ:=ad (some (aj gg 0)) (n+1) c,bx:=L.bx++[aa ⟨a.name.toArray⟩,ad q a.b.length d]} fu cv ov cx ox {p with gM:=p.gM++[a]} (bZ.setCell (aj P 8) (ag gg 0 (n+1) c)):=by
 have e7:=h.below jy;obtain⟨Ek,cur,gq⟩:=sG ct;have hne:∀k cs t dk,X.heap[k]?=some (.cells cs t dk)→t≠pP→t≠oz→L.eZ.ownBlock≠some k∧k≠P:=fun k cs t dk aw au ax=>⟨lH h.ej aw (eN au),g' aw h.pl ax⟩;have hK:aK (fun k=>L.eZ.ownBlock≠some k∧k≠P) X (bZ.setCell (aj P 8) (ag gg 0 (n+1) c)):=((aK.c4 jy).trans (aK.grown aI fun k e aw=>aw.1 e)).trans (aK.set (a:=⟨P,8,none⟩) (fun aw=>aw.2 rfl) _);have am5:=lH h.ej h.pl (by decide);have mR:al bZ P (Fc p fu m L cv) oz:=(aI.block P (lt_of_heap e7.pl) (eN am5)).trans e7.pl;have hR:∀k,R k→L.eZ.ownBlock≠some k∧k≠P:=fun k aw=>⟨(h.hv k aw).Pd,(h.hv k aw).x2⟩;obtain⟨es,x3,kA⟩:=h.mp.map;have me:∀{e:aai} {aR n:Nat} {v:ada} {xs:aev},X.ownsRow w0.heap.size e aR v n xs→e≠pP→e≠oz→∀k,v.ownBlock=some k→L.eZ.ownBlock≠some k∧k≠P:=by intro e aR n v xs hr au ax k aw;obtain⟨_,_,c,aB⟩:=ky hr aw;exact hne _ _ _ _ aB au ax
 have Lp:∀k,R k→gg≠k:=by
  intro k aw e;subst e;rcases hw with e|e
  ·exact (h.hv gg aw).Pd e.symm
  ·have:=(h.h0 gg aw).2;have:=jy.size;omega
 exact {
  pl:=by have:=dt (k:=P) (i:=8) (ag gg 0 (n+1) c) mR;exact this
  mp:=h.mp.keep hK ⟨Pc h.ej kA,(pO h.pl kA).symm⟩ hR
  kz:=h.kz
  er:=jk h.er hK (me h.er (by decide) (by decide))
  ia:=h.ia.keep hK hR fun k hm=>by obtain⟨_,_,c,aB⟩:=h.ia.wL k hm;exact hne _ _ _ _ aB (by decide) (by decide)
  oB:=h.oB
  oC:=h.oC
  bg:=h.bg.keep hK hR (fun k cur t aE bc=>hne _ _ _ _ aE (by rcases bc with rfl|rfl<;>decide) (by rcases bc with rfl|rfl<;>decide))
  aD:=jk h.aD hK (me h.aD (by decide) (by decide))
  lI:=h.lI.keep (hK.mono fun k _ aw=>hR k aw)
  ej:=by show World.ownsRow _ _ _ _ _ (p.gM++[a]).length _;rw[show (p.gM++[a]).length=n+1 by rw[fH,hn];rfl];exact jk ct (aK.set (S:=fun k=>k≠P) (a:=⟨P,8,none⟩) (fun aw=>aw rfl) _) fun k e=>by have a6:gg=k:=(by simpa[Value.ownBlock] using e);rw[←a6];exact g' gq mR (by decide)
  oD:=h.oD.snoc ay
  h0:=fun k aw=>⟨(h.h0 k aw).1,hN (h.h0 k aw).2 hK.size⟩
  hv:=fun k aw=>
   have aB:=h.hv k aw
   ⟨aB.x2,aB.oA,aB.Lg,aB.CK,aB.HO,fun e=>Lp k aw (by simpa[Value.ownBlock] using e),aB.Pe⟩
  l9:=h.l9
  mK:=h.mK
  aM:=h.aM.trans (hK.below _ h.aM.size fun k aw=>⟨fun e=>by have:=(ky h.ej e).1;omega,by have:=h.l9;omega⟩)}
theorem am6{f:mo→Bool}{l:List mo}{j:Nat}(b6:j<l.length)(h:(l.take j).any f=false)(hf:f l[j]=false):(l.take (j+1)).any f=false:=by rw[AB b6,List.any_append,h];simp[hf]
theorem am7{f:mo→Bool}{l:List mo}{j:Nat}(b6:j<l.length)(hf:f l[j]=true):l.any f=true:=List.any_eq_true.2 ⟨_,k3 b6,hf⟩
theorem PO(a b:ar):((⟨a.toArray⟩:Ua).toList==b)=(a==b):=by rw[nj]
theorem am8(w0:aeo)(P:Nat)(p:cy)(ca cn bY:Int)(cF:Bool)(bg c8 c9 cS aR:ar)(bF:ada)(e1:List dN)(jQ:Ja)(wP:Nat)(w:aeo)(H:af (jl w0 P p w))(ja:af (fG 0 w0 jQ e1))(mC:p.gM.length≤1000000)(res:Except Nat cy)(c6:af ((if p.gM.any (fun m=>m.name==bg)=true then .error 4 else .ok {p with gM:=p.gM++[⟨bg,e1⟩]})=res)):
  Calls Tryz.prog 79 #[ah P 0,.agg (fv ca 19 cn bY cF bg c8 c9 cS aR bF (ad jQ e1.length wP))] w fun e w'=>gi w0 P res e w':=by
 obtain⟨R,m,⟨eY,eh,lc,fP,hs,eZ,bx⟩,fu,cv,ov,cx,ox,h⟩:=H.out;have H1:=ao h;obtain⟨ns,iX⟩:=aq e1.length;have U5:=ao iX;obtain⟨n,hn⟩:=aq p.gM.length;have bd:=ao hn;have avI:n≤1000000:=by rw[←hn];exact mC
 have ct:w.ownsRow w0.heap.size pP 2 eZ p.gM.length bx:=h.ej;rw[hn] at ct;obtain⟨pm,H8,rfl⟩:=iw ct;have Ff:=ao ct;have Ux:af (vk w0 p.gM bx):=h.oD;rw[iX];clear h H ct hn iX mC;go_enter Pz,PA;go_upto_region 12 with fail;have bp:=ao (H1.out.below (bh w (ai (fv ca 19 cn bY cF bg c8 c9 cS aR bF (ad jQ ns wP)) fm)));have b9:af ((w.alloc (ai (fv ca 19 cn bY cF bg c8 c9 cS aR bF (ad jQ ns wP)) fm)).heap[w.heap.size]?=some (.cells (fv ca 19 cn bY cF bg c8 c9 cS aR bF (ad jQ ns wP)) fm)):=cR _ _;have aH:af (an w w (w.alloc (ai (fv ca 19 cn bY cF bg c8 c9 cS aR bF (ad jQ ns wP)) fm))):=bh _ _;generalize w.alloc (.cells (fv ca 19 cn bY cF bg c8 c9 cS aR bF (ad jQ ns wP)) fm)=W at bp b9 aH⊢;obtain⟨D,b4⟩:=aq w.heap.size;rw[b4] at b9⊢;clear b4;have c5:ak W P 8 (ad pm n H8):=cell_of (i:=8) bp.out.pl rfl;go_upto_region 13 with fail;clear c5
 go_loopw [57] (fun i wr=>∃(j:Nat) (aL:aeo),aL=wr∧j≤n∧i=I j∧af ((p.gM.take j).any (fun m=>m.name==bg)=false)∧af (an W W aL)) (fun i _=>n -(intOf i).toNat)
 case atStart=>exact⟨0,_,rfl,cO _,rfl,rfl,Below.refl _ _⟩
 case round=>
 obtain⟨j,aL,rfl,b6,rfl,abR,il⟩:=hrel;have bW:=ao (bp.out.below il.out);have iQ:=ao (ba b9.out il.out);by_cases bm:j<n
 ·have fD:(j:Int)<(n:Int):=(by omega);have qG:(0:Int)≤(j:Int):=(by omega);have gD:j<p.gM.length:=(by rw[bd.out];exact bm);obtain⟨abS,md,fX,jH,_⟩:=Ux.out.get j gD;have dp:=fY Ff.out (aH.out.trans (il.out.mono aH.out.size))
  obtain⟨dz,rfl⟩:∃b,pm=some ⟨b,0,none⟩:=by
   rcases dp.2 with ⟨_,aF⟩|⟨g,_,_,aI,_⟩
   ·omega
   ·injection aI with aI;exact⟨g,aI⟩
  have du:ak aL dz (j *2) (aa ⟨(p.gM[j]).name.toArray⟩):=(dp.cellAt (j *2) (by omega)).trans fX;have dI:ak aL dz (j *2+1) (ad abS (p.gM[j]).b.length md):=(dp.cellAt (j *2+1) (by omega)).trans jH;have ya:=PO (p.gM[j]).name bg;have d5:ak aL D 5 (aa ⟨bg.toArray⟩):=cell_of (i:=5) iQ.out rfl;have rz:=lt_of_heap iQ.out;obtain⟨e,he⟩:=aq ((p.gM[j]).name==bg);have cc:=ao he;rw[he] at ya;generalize (⟨(p.gM[j]).name.toArray⟩:Ua)=CZ at du ya;generalize (p.gM[j]).b.length=am9 at dI;clear fX jH dp he;have oI:af (an W W (aL.alloc (ai (#[aa CZ,ad abS am9 md]) pP))):=il.out.alloc il.out.size _;cases e with
  |true=>
   have hF: .error 4=res:=(by rw[←c6.out,aW (am7 gD cc.out)]);go_wp2_with fail;go_ret;rw[←hF];exact⟨bp.out.aM.trans (oI.out.mono bp.out.aM.size),rfl⟩
  |false=>
   have U6:=ao (am6 gD abR.out cc.out);go_wp2_with fail;go_round<;>first|exact⟨j+1,_,rfl,by omega,by go_num,U6.out,oI.out⟩|(simp[intOf]<;>omega)
 ·have kM:j=n:=(by omega);subst kM;have hF: .ok {p with gM:=p.gM++[⟨bg,e1⟩]}=res:=(by have au:=abR.out;rw[sY (by rw[bd.out];exact aP _)] at au;rw[←c6.out,au];rfl);have aJ:=ao hF;have d5:ak aL D 5 (aa ⟨bg.toArray⟩):=cell_of (i:=5) iQ.out rfl;have d11:ak aL D 11 (ad jQ ns wP):=cell_of (i:=11) iQ.out rfl;have c5:ak aL P 8 (ad pm j H8):=cell_of (i:=8) bW.out.pl rfl;have f5:=dc bW.out.pl 8;have rz:=lt_of_heap iQ.out;have oE:=lt_of_heap bW.out.pl;have fw:=bW.out.aM.size;have dp:=fY Ff.out (aH.out.trans (il.out.mono aH.out.size));have k8:af ((aL.drew.alloc (ai (#[aa ⟨bg.toArray⟩,ad jQ ns wP]) pP)).ownsRow w0.heap.size pP 2 (ad pm j H8) j bx):=dp.drew.alloc _;have jI:af (an aL aL (aL.drew.alloc (ai (#[aa ⟨bg.toArray⟩,ad jQ ns wP]) pP))):=(Below.refl _ _).drew.alloc (aP _) _;have jX:∀(bZ:aeo),(aL.drew.alloc (ai (#[aa ⟨bg.toArray⟩,ad jQ ns wP]) pP)).grownBy bZ (Value.slice pm j H8).ownBlock→ak bZ P 8 (ad pm j H8)∧bZ.frozen? ⟨P,8,none⟩=false:=(by intro bZ pR;have mR:=ba bW.out.pl jI.out;have au:=(pR.block _ (lt_of_heap mR) (eN (lH k8.out mR (by decide)))).trans mR;exact⟨cell_of au rfl,dc au 8⟩);obtain⟨i0,hi,cW,dv,dx⟩:=info_parts am3;have bL:=ao (And.intro hi (And.intro cW (And.intro dv dx)));clear hi cW dv dx dp hF;go_upto_region 18 with fail
  go_region_law (first|(refine sr _ (by rfl) _ _ _ (by rfl) w0.heap.size pP i0 (.agg #[aa ⟨#[]⟩,J 0]) 2 40 Tryz.underlying134 bL.out.1 bL.out.2.1 bL.out.2.2.1 bL.out.2.2.2 rfl (by omega) (ad pm j H8) j _ (by rfl) k8.out (aj aL.heap.size 0) 1 1 [aa ⟨bg.toArray⟩,ad jQ ns wP] (by rfl) (by rfl) (jx (cs:= #[aa ⟨bg.toArray⟩,ad jQ ns wP]) (t:=pP) (fr:=(0,0)) (dL aL _)) (by simp[Value.oneCell']) (by omega) (by unfold maxLen;omega) (by omega) (by simp;omega) (aL.heap.size+1) (by simp) ?_;intro gg gG br ct dn dF h5;obtain⟨bI,bJ⟩:=jX br dn)|fail)
  all_goals
   have fF:=dV.am4 (a:=⟨bg,e1⟩) bW.out bd.out jI.out dn (by rw[U5.out];exact ct) (dF.imp HB (fun h=>by rw[h];exact CN (l' _))) ja.out;clear ct dn dF h5 bI bJ d5 d11 c5 f5 jX;go_wp2_with fail;go_ret;rw[←aJ.out];exact gi.nR rfl fF
theorem U7:(Tryz.prog.info? 141).map (fun i=>(i.zero,i.size,i.bytes))=some (some (.agg #[U false,I 0,I 0,I 0,I 0,I 0,J 0]),7,72):=by kernel_rfl
theorem dV.abU{w0:aeo}{P:Nat}{R:afp}{m:Nat}{L:nm}{fu:Int}{cv ov:ada}{cx ox:aev}{p:cy}{X Y bZ:aeo}{gg c:Nat}{v:nD}
  (h:dV w0 P R m L fu cv ov cx ox p X) (jy:an X X Y) (aI:Y.grownBy bZ (some L.b)) (ct:bZ.ownsRow w0.heap.size gF 7 (ag gg 0 (L.n+1) c) (L.n+1) ((L.fP++l8 p.top ov)++l8 v cC)) (hw:gg=L.b∨Y.heap.size≤gg) (aS:v.eg=[]):
  dV w0 P R m {L with b:=gg,n:=L.n+1,c:=c,fP:=L.fP++l8 p.top ov,hs:=ov.ownBlock.toList++L.hs} fu cv cC cx [] {p with top:=v,levels:=p.top::p.levels} (bZ.setCell (aj P 21) (ag gg 0 (L.n+1) c)):=by
 have e7:=h.below jy;obtain⟨Ek,cur,gq⟩:=sG ct;obtain⟨PQ,ana,H9⟩:=sG h.er;have avJ:(Value.slice (some (aj L.b 0)) L.n L.c).ownBlock=some L.b:=rfl;have hne:∀k cs t dk,X.heap[k]?=some (.cells cs t dk)→t≠gF→t≠oz→k≠L.b∧k≠P:=fun k cs t dk aw au ax=>⟨g' aw H9 au,g' aw h.pl ax⟩;have hK:aK (fun k=>k≠L.b∧k≠P) X (bZ.setCell (aj P 21) (ag gg 0 (L.n+1) c)):=((aK.c4 jy).trans (aK.grown aI fun k e aw=>aw.1 (by injection e with e;exact e.symm))).trans (aK.set (a:=⟨P,21,none⟩) (fun aw=>aw.2 rfl) _);have mR:al bZ P (Fc p fu m L cv) oz:=(aI.block P (lt_of_heap e7.pl) (fun e=>by injection e with e;exact g' h.pl H9 (by decide) e)).trans e7.pl;have hR:∀k,R k→k≠L.b∧k≠P:=fun k aw=>⟨(h.hv k aw).Lg,(h.hv k aw).x2⟩;obtain⟨es,x3,kA⟩:=h.mp.map;have me:∀{e:aai} {aR n:Nat} {v:ada} {xs:aev},X.ownsRow w0.heap.size e aR v n xs→e≠gF→e≠oz→∀k,v.ownBlock=some k→k≠L.b∧k≠P:=by intro e aR n v xs hr au ax k aw;obtain⟨_,_,c,aB⟩:=ky hr aw;exact hne _ _ _ _ aB au ax
 have Lp:∀k,R k→k≠gg:=by
  intro k aw e;subst e;rcases hw with e|e
  ·exact (h.hv k aw).Lg e
  ·have:=(h.h0 k aw).2;have:=jy.size;omega
 exact {
  pl:=by have:=dt (k:=P) (i:=21) (ag gg 0 (L.n+1) c) mR;exact this
  mp:=h.mp.keep hK ⟨(pO H9 kA).symm,(pO h.pl kA).symm⟩ hR
  kz:=by show L.n+1=(p.top::p.levels).length+1;rw[h.kz];rfl
  er:=jk ct (aK.set (S:=fun k=>k≠P) (a:=⟨P,21,none⟩) (fun aw=>aw rfl) _) fun k e=>by have a6:gg=k:=(by simpa[Value.ownBlock] using e);rw[←a6];exact g' gq mR (by decide)
  ia:=⟨L.fP,L.hs,ov,ox,rfl,rfl,jk h.aD hK (me h.aD (by decide) (by decide)),h.lI.keep (hK.mono fun k _ aw=>hR k aw),h.ia.keep hK hR fun k hm=>by obtain⟨_,_,c,aB⟩:=h.ia.wL k hm;exact hne _ _ _ _ aB (by decide) (by decide)⟩
  oB:=fun k _ e=>by cases e
  oC:=by
   cases a1:ov.ownBlock with
   |none=>exact h.oC
   |some k=>exact List.nodup_cons.2 ⟨fun hm=>h.oB k hm a1,h.oC⟩
  bg:=h.bg.keep hK hR (fun k cur t aE bc=>hne _ _ _ _ aE (by rcases bc with rfl|rfl<;>decide) (by rcases bc with rfl|rfl<;>decide))
  aD:=by show World.ownsRow _ _ _ _ _ v.eg.length _;rw[aS];exact World.ownsRow_nil _ _ _ _
  lI:=by show da _ _ (p9 v.eg) _;rw[aS];exact trivial
  ej:=jk h.ej hK (me h.ej (by decide) (by decide))
  oD:=h.oD
  h0:=fun k aw=>⟨(h.h0 k aw).1,hN (h.h0 k aw).2 hK.size⟩
  hv:=fun k aw=>
   have aB:=h.hv k aw
   ⟨aB.x2,aB.oA,Lp k aw,aB.CK,fun e=>(by cases e),aB.Pd,fun hm=>(List.mem_append.1 hm).elim (fun hm=>aB.HO (by simpa[Option.mem_toList] using hm)) aB.Pe⟩
  l9:=h.l9
  mK:=h.mK
  aM:=h.aM.trans (hK.below _ h.aM.size fun k aw=>⟨fun e=>by omega,by have:=h.l9;omega⟩)}
theorem anb{w:aeo}{B:Nat}{e:aai}{aR n c g k:Nat}{xs ys:aev}(h:w.ownsRow B e aR (ag g 0 n c) n (xs++ys))(aw:k≤n)(hx:xs.length=k *aR):w.ownsRow B e aR (ag g 0 k c) k xs:=by
 refine⟨hx,?_⟩;rcases h.2 with ⟨eQ,_⟩|⟨mG,k7,cur,eQ,ay,aI,y5,nO,eD,Hz⟩
 ·cases eQ
 ·simp only[JJ,r0,PN,JK,true_and] at eQ;obtain⟨rfl,rfl⟩:=eQ;refine .inr ⟨g,c,cur,rfl,ay,aI,by omega,nO,eD,?_⟩;have a6:cur.toList.take (k *aR)=(cur.toList.take (n *aR)).take (k *aR):=(by rw[xh,yL (Ul _ aw)]);rw[a6,Hz,←hx,Ni]
theorem dV.anc{w0:aeo}{P:Nat}{R:afp}{m:Nat}{L:nm}{fu:Int}{cv ov:ada}{cx ox:aev}{p:cy}{X Z:aeo}{v:nD}{l:List nD}
  (h:dV w0 P R m L fu cv ov cx ox p X) (az:p.levels=v::l) (hK:aK (fun k=>k≠P) X Z) (iY:al Z P ((Fc p fu m L cv).setIfInBounds 21 (ag L.b 0 (l.length+1) L.c)) oz):
  ∃abV Fy LJ,dV w0 P (fun k=>R k∨ov.ownBlock=some k) m abV fu cv Fy cx LJ {p with top:=v,levels:=l} Z∧Z.ownsRow w0.heap.size fA 11 ov p.top.eg.length ox∧da (fun k=>R k∨ov.ownBlock=some k) Z (p9 p.top.eg) ox:=by
 have abW:=h.ia;rw[az] at abW;obtain⟨qZ,gs,Fy,LJ,aY,a6,cV,iI,lu⟩:=abW;have hn:L.n=l.length+2:=by rw[h.kz,az];rfl
 obtain⟨PQ,ana,H9⟩:=sG h.er;have hR:∀k,R k→k≠P:=fun k aw=>(h.hv k aw).x2;have me:∀{e:aai} {aR n:Nat} {v:ada} {xs:aev},X.ownsRow w0.heap.size e aR v n xs→e≠oz→∀k,v.ownBlock=some k→k≠P:=by intro e aR n v xs hr au k aw a6;exact lH hr h.pl au (a6 ▸ aw)
 obtain⟨es,x3,kA⟩:=h.mp.map;have U8:∀k,Fy.ownBlock=some k→ov.ownBlock≠some k:=fun k aw=>h.oB k (by rw[a6];simp[aw]);have zb:∀k,k∈gs→k∈L.hs:=fun k aw=>by rw[a6];simp[aw]
 have abX:=lu.len
 have au:dV w0 P R m {L with n:=l.length+1,fP:=qZ,hs:=gs} fu cv Fy cx LJ {p with top:=v,levels:=l} Z:={
  pl:=iY
  mp:=h.mp.keep hK (pO h.pl kA).symm hR
  kz:=rfl
  er:=by
   refine jk (anb (n:=L.n) (k:=l.length+1) (xs:=qZ++l8 v Fy) (ys:=l8 p.top ov) ?_ (by omega) ?_) hK fun k e=>by have a6:L.b=k:=(by simpa[Value.ownBlock] using e);rw[←a6];exact g' H9 h.pl (by decide)
   ·have:=h.er;rw[aY] at this;exact this
   ·rw[fH,abX,Uk];rfl
  ia:=lu.keep hK hR fun k hm=>by obtain⟨_,_,c,aB⟩:=lu.wL k hm;exact g' aB h.pl (by decide)
  oB:=fun k hm e=>by have:=h.oC;rw[a6,e] at this;exact (List.nodup_cons.1 this).1 hm
  oC:=by have:=h.oC;rw[a6,List.nodup_append] at this;exact this.2.1
  bg:=h.bg.keep hK hR (fun k cur t aE bc=>g' aE h.pl (by rcases bc with rfl|rfl<;>decide))
  aD:=jk cV hK (me cV (by decide))
  lI:=iI.keep (hK.mono fun k _ aw=>hR k aw)
  ej:=jk h.ej hK (me h.ej (by decide))
  oD:=h.oD
  h0:=fun k aw=>⟨(h.h0 k aw).1,hN (h.h0 k aw).2 hK.size⟩
  hv:=fun k aw=>
   have aB:=h.hv k aw
   ⟨aB.x2,aB.oA,aB.Lg,aB.CK,fun e=>aB.Pe (by rw[a6];simp[e]),aB.Pd,fun hm=>aB.Pe (zb k hm)⟩
  l9:=h.l9
  mK:=h.mK
  aM:=h.aM.trans (hK.below _ h.aM.size fun k aw e=>by have:=h.l9;omega)}
 refine⟨{L with n:=l.length+1,fP:=qZ,hs:=gs},Fy,LJ,au.more (fun k aw=>?_) (fun k cur aE aw=>?_),jk h.aD hK (me h.aD (by decide)),(h.lI.keep (hK.mono fun k _ aw=>hR k aw)).mono fun k _ aw=>.inl aw⟩
 ·obtain⟨g1,g2,cur,g3⟩:=ky h.aD aw;refine⟨⟨g1,hN g2 hK.size⟩,g' g3 h.pl (by decide),pO g3 kA,g' g3 H9 (by decide),lH h.bg.own g3 (by decide),fun e=>U8 k e aw,lH h.ej g3 (by decide),fun hm=>h.oB k (zb k hm) aw⟩
 ·exfalso;obtain⟨g1,g2,avK,g3⟩:=ky h.aD aw;have g4:=hK.get (g' g3 h.pl (by decide)) g3;rw[g4] at aE;injection aE with aE;injection aE with _ bc;exact absurd bc (by decide)
theorem ane(w0:aeo)(P:Nat)(p:cy)(ca bU cn bY:Int)(cF:Bool)(bg c8 c9 cS aR:ar)(bF bv:ada)(w:aeo)(H:af (jl w0 P p w))(lV:p.levels.length≤1000)(res:Except Nat cy)(c6:af ((if BP p cn=true then .error 4 else if 16≤p.levels.length then .error 6 else .ok {p with top:={j8 with code:=cn},levels:=p.top::p.levels})=res)):
  Calls Tryz.prog 83 #[ah P 0,.agg (fv ca bU cn bY cF bg c8 c9 cS aR bF bv)] w fun e w'=>gi w0 P res e w':=by
 obtain⟨t,bc⟩:=aq (BP p cn);have PR:=ao (fun Z (cN:an w w Z)=>abQ w0 P p cn Z (ao (H.out.below cN)) lV t (ao bc));have hr:=c6.out;rw[bc] at hr;clear c6 bc;obtain⟨R,m,L,fu,cv,ov,cx,ox,h⟩:=H.out;have bp:=ao (h.below (bh w (ai (fv ca bU cn bY cF bg c8 c9 cS aR bF bv) fm)));have b9:af ((w.alloc (ai (fv ca bU cn bY cF bg c8 c9 cS aR bF bv) fm)).heap[w.heap.size]?=some (.cells (fv ca bU cn bY cF bg c8 c9 cS aR bF bv) fm)):=cR _ _;have aH:af (an w w (w.alloc (ai (fv ca bU cn bY cF bg c8 c9 cS aR bF bv) fm))):=bh _ _;have hn:=h.kz;clear h H;go_enter Tryz.func83,Tryz.ntmps83;go_upto_region 1 with fail;generalize w.alloc (.cells (fv ca bU cn bY cF bg c8 c9 cS aR bF bv) fm)=W at bp b9 aH⊢;obtain⟨D,b4⟩:=aq w.heap.size;rw[b4] at b9⊢;clear b4;have d2:=cell_of (i:=2) b9.out rfl;go_wp2_with fail;with_reducible refine (PR.out W aH.out).mono ?_
 rintro e dZ ⟨rfl,eF⟩;have bW:=ao (bp.out.below eF);have iQ:=ao (ba b9.out eF);clear eF d2 PR bp b9 aH;cases t with
 |true=>
  have hF: .error 4=res:=hr;go_wp2_with fail;go_ret;rw[←hF];exact⟨bW.out.aM,rfl⟩
 |false=>
  have hr:(if 16≤p.levels.length then .error 6 else .ok {p with top:={j8 with code:=cn},levels:=p.top::p.levels})=res:=hr;obtain⟨eY,eh,lc,fP,hs,eZ,bx⟩:=L;have wH:eh=p.levels.length+1:=hn;clear hn;have rN:ak dZ P 21 (ad (some (aj eY 0)) eh lc):=cell_of (i:=21) bW.out.pl rfl;have f21:=dc bW.out.pl 21;by_cases A9:16≤p.levels.length
  ·have hF: .error 6=res:=(aW A9).symm.trans hr;have bm:(16:Int)<(eh:Int):=(by omega);go_wp2_with fail;go_ret;rw[←hF];exact⟨bW.out.aM,rfl⟩
  ·have aJ:af (.ok {p with top:={j8 with code:=cn},levels:=p.top::p.levels}=res):=(aN A9).symm.trans hr;have bm:¬(16:Int)<(eh:Int):=(by omega);have avL:eh≤16:=(by omega);have d2:=cell_of (i:=2) iQ.out rfl;have oE:=lt_of_heap bW.out.pl;have rz:=lt_of_heap iQ.out;have fw:=bW.out.aM.size;obtain⟨i0,hi,cW,dv,dx⟩:=info_parts U7;have bL:=ao (And.intro hi (And.intro cW (And.intro dv dx)));clear hi cW dv dx hr A9 wH;have k8:af (((dZ.alloc (ai (#[U false,I cn,I 0,I 0,I 0,I 0,J 0]) gF)).drew).ownsRow w0.heap.size gF 7 (ag eY 0 eh lc) eh (fP++l8 p.top ov)):=(bW.out.er.alloc _).drew;have jI:af (an dZ dZ ((dZ.alloc (ai (#[U false,I cn,I 0,I 0,I 0,I 0,J 0]) gF)).drew)):=((Below.refl _ _).alloc (aP _) _).drew;have jX:∀(bZ:aeo),((dZ.alloc (ai (#[U false,I cn,I 0,I 0,I 0,I 0,J 0]) gF)).drew).grownBy bZ (Value.slice (some (aj eY 0)) eh lc).ownBlock→ak bZ P 21 (ad (some (aj eY 0)) eh lc)∧bZ.frozen? ⟨P,21,none⟩=false:=(by intro bZ pR;have mR:=ba bW.out.pl jI.out;have au:=(pR.block _ (lt_of_heap mR) (eN (lH k8.out mR (by decide)))).trans mR;exact⟨cell_of au rfl,dc au 21⟩);go_upto_region 5 with fail
   go_region_law (first|(refine sr _ (by rfl) _ _ _ (by rfl) w0.heap.size gF i0 (.agg #[U false,I 0,I 0,I 0,I 0,I 0,J 0]) 7 72 U3 bL.out.1 bL.out.2.1 bL.out.2.2.1 bL.out.2.2.2 rfl (by omega) (ag eY 0 eh lc) eh _ (by rfl) k8.out (aj dZ.heap.size 0) 1 1 [U false,I cn,I 0,I 0,I 0,I 0,J 0] (by rfl) (by rfl) (jx (cs:= #[U false,I cn,I 0,I 0,I 0,I 0,J 0]) (t:=gF) (fr:=(0,0)) (dL dZ _)) (by simp[Value.oneCell']) (by omega) (by unfold maxLen;omega) (by omega) (by simp;omega) (dZ.heap.size+1) (by simp) ?_;intro gg gG br ct dn dF h5;obtain⟨bI,bJ⟩:=jX br dn)|fail)
   all_goals
    have fF:=dV.abU (v:={j8 with code:=cn}) bW.out jI.out dn ct (dF.imp (fun h=>by injection h with h;exact h.symm) (fun h=>by rw[h];exact CN (l' _))) rfl;clear ct dn dF h5 bI bJ d2 rN f21 jX;go_wp2_with fail;go_ret;rw[←aJ.out];exact gi.nR rfl fF
variable{P:aeo→Prop}{w:aeo}{o p q:Obj}{g i j m:Nat}{cs:ajv}{t:aai}{u v x:ada}
variable{b D:Nat}
theorem aK.ne(v:ada):aK (fun k=>k≠g) w (w.setCell (aj g b) v):=aK.set (a:=⟨g,b,none⟩) (fun h=>h rfl) v
variable{w' b5:aeo}
theorem aK.aM{B:Nat}{w0 w:aeo}(h:aK (fun b=>b≠g) w w')(ay:Below B w0 w)(aI:B≤g)(hs:B≤w.heap.size):Below B w0 w':=ay.trans (h.below B hs fun k aw e=>by omega)
theorem anf(h:al w g cs t)(k:∀W,al W g (cs.setIfInBounds i v) t→aK (fun b=>b≠g) w W→P W):P (w.setCell (aj g i) v):=k _ (dt _ h) (aK.ne _)
theorem abY:∀(vs pre l:aev),vs.length≤l.length→sa (pre++l).toArray pre.length vs=(pre++vs++l.drop vs.length).toArray
 |[],pre,l,_=>by simp[sa]
 |v::vs,pre,[],h=>absurd h (by simp)
 |v::vs,pre,x::l,h=>by have e:(pre++x::l).toArray.setIfInBounds pre.length v=((pre++[v])++l).toArray:=(by simp);have g:=abY vs (pre++[v]) l (by simpa using h);rw[fH] at g;show sa _ _ _=_;rw[sa,e];exact g.trans (by simp)
theorem abZ{l:aev}(vs:aev)(h:al w g l.toArray t)(az:vs.length≤l.length)(k:∀W,al W g ((vs++l.drop vs.length).toArray) t→aK (fun b=>b≠g) w W→W.heap.size=w.heap.size→P W):P (ij w g 0 vs):=by refine k _ ?_ (BQ (fun h=>h rfl) vs) (R3 _ _ _ _);rw[GG vs h];have:=abY vs [] l az;simp only[SL,kZ] at this;rw[this]
theorem ang{l:aev}(vs:aev)(h:al w g l.toArray t)(az:vs.length≤l.length)(k:∀W,al W g ((vs++l.drop vs.length).toArray) t→aK (fun b=>b≠g) w W→P W):P (ij w g 0 vs):=abZ vs h az fun W au ax _=>k W au ax
theorem lh(vs:aev)(h:al w g cs t)(az:vs.length=cs.size)(k:∀W,al W g vs.toArray t→aK (fun b=>b≠g) w W→P W):P (ij w g 0 vs):=k _ (Yn vs h az) (BQ (fun h=>h rfl) vs)
theorem anh{S R:afp}{w x y:aeo}(h:aK S w x)(g:aK R x y)(hR:∀k,k<w.heap.size→R k):aK S w y:=⟨g.os.trans h.os,g.tape.trans h.tape,g.output.trans h.output,cd h.size g.size,fun k aw az=>(g.block k (hR k az) (hN az h.size)).trans (h.block k aw az)⟩
abbrev lj(v:nD)(ov:ada):Obj:=.cells (l8 v ov).toArray gF
def ani(w0:aeo)(P:Nat)(p:cy)(st:Bool)(w:aeo)(e:Ending)(w':aeo):Prop:=
 (an w w w'∧e=ab (.tuple #[.agg (l8 j8 cC).toArray,U false]))∨
 ∃v l,p.levels=v::l∧p.top.step=st∧∃R m L fu cv ov cx ox Fz H',e=ab (.tuple #[.agg (l8 p.top Fz).toArray,U true])∧dV w0 P R m L fu cv ov cx ox {p with top:=v,levels:=l} w'∧w'.ownsRow w0.heap.size fA 11 Fz p.top.eg.length H'∧da R w' (p9 p.top.eg) H'∧∀k,Fz.ownBlock=some k→R k
theorem C0{w:aeo}{v0 v1 v2 v3 v4 v5 v6:ada}{t:aai}(h:al w b (#[v0,v1,v2,v3,v4,v5,v6]) t):(ak w b 0 v0∧ak w b 1 v1∧ak w b 2 v2∧ak w b 3 v3∧ak w b 4 v4∧ak w b 5 v5∧ak w b 6 v6)∧∀i,w.frozen? ⟨b,i,none⟩=false:=by refine⟨⟨?_,?_,?_,?_,?_,?_,?_⟩,fun i=>dc h i⟩<;>simp[World.cell?,h]
theorem PS(w0:aeo)(P:Nat)(p:cy)(st:Bool)(w:aeo)(H:af (jl w0 P p w))(lV:p.levels.length≤1000):
  Calls Tryz.prog 127 #[ah P 0,U st] w (ani w0 P p st w):=by
 obtain⟨R,m,L,fu,cv,ov,cx,ox,h⟩:=H.out;obtain⟨gd,co,rfl⟩:=iw h.aD;obtain⟨no,ji⟩:=aq p.top.eg.length;have rE:=ao ji;rw[ji] at h;clear ji;have yc:=ao h;have H1:=ao (h.below (bh w (lj j8 cC)));have aQ:af ((w.alloc (lj j8 cC)).heap[w.heap.size]?=some (lj j8 cC)):=cR _ _;have aH:af (an w w (w.alloc (lj j8 cC))):=bh _ _;have hn:=h.kz;have lr:af (P≠w.heap.size):=qn (lt_of_heap h.pl);clear h H;obtain⟨eY,eh,lc,fP,hs,eZ,bx⟩:=L;have wH:eh=p.levels.length+1:=hn;clear hn;obtain⟨k,aw⟩:=aq p.levels.length;have en:=ao aw;rw[aw] at wH lV;subst wH;clear aw;obtain⟨ts,FA⟩:=aq p.top.step;have uU:=ao FA
 have LF:k+1≤lc:=by
  have bj:=yc.out.er;rcases bj.2 with ⟨b8,cY⟩|⟨k,cap,cur,b8,_,_,cY,_⟩
  ·cases b8
  ·injection b8 with _ _ dM;have dM:lc=cap:=dM;have cY:_+1≤cap:=cY;omega
 have T:=fun j b6=>H1.out.Pg en.out j b6;have rN:(w.alloc (lj j8 cC)).cell? ⟨P,21,none⟩=some (ad (some (aj eY 0)) (k+1) lc):=cell_of (i:=21) H1.out.pl rfl;have f21:=dc H1.out.pl 21;have t0:(w.alloc (lj j8 cC)).cell? ⟨eY,k *7,none⟩=some (U ts):=by rw[←FA];exact (T 0 (by decide)).1
 have t1:(w.alloc (lj j8 cC)).cell? ⟨eY,k *7+1,none⟩=some (I p.top.code):=(T 1 (by decide)).1;have t2:(w.alloc (lj j8 cC)).cell? ⟨eY,k *7+2,none⟩=some (I p.top.n):=(T 2 (by decide)).1;have t3:(w.alloc (lj j8 cC)).cell? ⟨eY,k *7+3,none⟩=some (I p.top.m):=(T 3 (by decide)).1;have t4:(w.alloc (lj j8 cC)).cell? ⟨eY,k *7+4,none⟩=some (I p.top.eI.1):=(T 4 (by decide)).1;have t5:(w.alloc (lj j8 cC)).cell? ⟨eY,k *7+5,none⟩=some (I p.top.eI.2):=(T 5 (by decide)).1;have t6:(w.alloc (lj j8 cC)).cell? ⟨eY,k *7+6,none⟩=some (ad gd no co):=(T 6 (by decide)).1;have oE:=lt_of_heap H1.out.pl;have ja:eY<(w.alloc (lj j8 cC)).heap.size:=by obtain⟨_,_,aE⟩:=H1.out.Pf;exact lt_of_heap aE
 obtain⟨⟨du,dI,h4,qC,qD,qE,qF⟩,LK⟩:=C0 aQ.out;clear T FA;go_enter Tryz.func127,Tryz.ntmps127;go_upto_region 1 with fail;change Code.wp _ _ _ _ (w.alloc (lj j8 cC));generalize w.alloc (lj j8 cC)=W at H1 aQ aH rN f21 t0 t1 t2 t3 t4 t5 t6 oE ja du dI h4 qC qD qE qF LK⊢;by_cases jY:k=0
 ·subst jY;go_wp2_with fail;refine lh (P:=bodyPost _ _ _ _ _) (l8 j8 cC) aQ.out rfl fun cZ g1 g2=>?_;exact cL (mw rfl _ _ w.heap.size _ _ _ _ rfl g1 U4 rfl (by kernel_rfl)) rfl (.inl ⟨g2.aM aH.out (aP _) aH.out.size,rfl⟩)
 ·have eM:((k:Int)==0)=false:=(by rw[fO];omega);have pN:(k:Int)+1-1=(k:Int):=(by omega);by_cases hJ:ts=st
  case neg=>
   have FA:(ts==st)=false:=beq_eq_false_iff_ne.2 hJ;go_wp2_with fail;refine lh (P:=bodyPost _ _ _ _ _) (l8 j8 cC) aQ.out rfl fun cZ g1 g2=>?_;exact cL (mw rfl _ _ w.heap.size _ _ _ _ rfl g1 U4 rfl (by kernel_rfl)) rfl (.inl ⟨g2.aM aH.out (aP _) aH.out.size,rfl⟩)
  case pos=>
   subst hJ;have LL:p.top.step=ts:=uU.out
   obtain⟨v,l,mH⟩:∃v l,p.levels=v::l:=by
    cases hp:p.levels with
    |nil=>exfalso;have:=en.out;rw[hp] at this;exact jY this.symm
    |cons v l=>exact⟨v,l,rfl⟩
   have kL:k=l.length+1:=(by rw[←en.out,mH];rfl);have cK:af (an w w (W.alloc (lj {p.top with step:=ts} (ad gd no co)))):=aH.out.alloc aH.out.size _;have p7:af ((W.alloc (lj {p.top with step:=ts} (ad gd no co))).heap[W.heap.size]?=some (lj {p.top with step:=ts} (ad gd no co))):=cR _ _;have ab0:=ao (ba aQ.out (bh W (lj {p.top with step:=ts} (ad gd no co))));have PT:=ao (ba yc.out.pl cK.out);have oX:=ao (And.intro mH (And.intro LL kL));have anj:w.heap.size<W.heap.size:=lt_of_heap aQ.out;have la:(0:Int)≤(k:Int):=Cm _;clear mH LL kL;go_upto_region 5 with fail;change Code.wp _ _ _ _ (W.alloc (lj {p.top with step:=ts} (ad gd no co)));generalize W.alloc (lj {p.top with step:=ts} (ad gd no co))=X at cK p7 ab0 PT⊢;obtain⟨T,dm⟩:=aq W.heap.size;rw[dm] at p7 anj oE⊢;clear rN f21 t0 t1 t2 t3 t4 t5 t6 du dI h4 qC qD qE qF LK dm ja;have rN:ak X P 21 (ad (some (aj eY 0)) (k+1) lc):=cell_of (i:=21) PT.out rfl;have f21:=dc PT.out 21;go_upto_region 6 with fail;have en:af (aK (fun b=>b≠P) X (X.setCell (aj P 21) (ag eY 0 k lc))):=aK.ne _;have ab1:=ao (dt (k:=P) (i:=21) (ag eY 0 k lc) PT.out);generalize X.setCell (aj P 21) (ad (some (aj eY 0)) k lc)=Y at en ab1⊢;clear rN f21;have ank:=ao (en.out.get (show T≠P by omega) p7.out);have U9:=ao (en.out.get lr.out.symm ab0.out);obtain⟨⟨t0,t1,t2,t3,t4,t5,t6⟩,nY⟩:=C0 ank.out;obtain⟨⟨du,dI,h4,qC,qD,qE,qF⟩,LK⟩:=C0 U9.out;have avM:=lt_of_heap U9.out;go_wp2_with fail;refine lh (P:=bodyPost _ _ _ _ _) (l8 {p.top with step:=ts} (ad gd no co)) U9.out rfl fun cZ g1 g2=>?_;refine cL (mw rfl _ _ w.heap.size _ _ _ _ rfl g1 U4 rfl (by kernel_rfl)) rfl (.inr ?_);obtain⟨mH,LL,kL⟩:=oX.out;have anl:aK (fun b=>b≠P) w cZ:=anh ((aK.c4 cK.out).trans en.out) g2 fun b ay=>qn ay;obtain⟨abV,Fy,LJ,bI,bJ,dT⟩:=yc.out.anc mH anl (by rw[←kL];exact g2.get lr.out ab1.out);exact⟨v,l,mH,LL,_,_,_,_,_,_,_,_,_,_,by rw[show p.top={p.top with step:=ts} by rw[←LL]];rfl,bI,bJ,dT,fun _ h=>.inr h⟩
abbrev nZ:TypeId:=207
abbrev oK(b:dK)(gb gv:ada)(r:Int):Array Value:= #[I b.k,I b.a.1,I b.a.2,I b.b.1,I b.b.2,I b.c.1,I b.c.2,I b.r,gb,gv,I r]
abbrev U':Value:=.agg #[I 0,I 0,I 0,I 0,I 0,I 0,I 0,I 0,J 0,J 0,I 0]
def yd(w:aeo)(r:Except Nat (dq×Int))(e:Ending)(w':aeo):Prop:=Below w.heap.size w w'∧match r with
 |.error k=>k≠0∧e=ab (.tuple #[U',I (k:Int)])
 |.ok x=>∃(pl:Ja) (cl:Nat) (pp:Ja) (cp:Nat),e=ab (.tuple #[.agg (oK x.1.b (ad pl x.1.b.l.length cl) (ad pp x.1.p.len cp) x.2),I 0])∧dw (fun k=>w.heap.size≤k) w' pl cl pp cp x.1
theorem yd.get{w:aeo}{x:dq×Int}{e:Ending}(h:yd w (.ok x) e w'):an w w w'∧∃(pl:Ja) (cl:Nat) (pp:Ja) (cp:Nat),e=ab (.tuple #[.agg (oK x.1.b (ad pl x.1.b.l.length cl) (ad pp x.1.p.len cp) x.2),I 0])∧dw (fun k=>w.heap.size≤k) w' pl cl pp cp x.1:=h
theorem yd.no{w:aeo}{k:Nat}{e:Ending}(h:yd w (.error k) e w'):an w w w'∧k≠0∧e=ab (.tuple #[U',I (k:Int)]):=h
theorem dV.ab2{w0:aeo}{P:Nat}{R:afp}{m:Nat}{L:nm}{fu:Int}{cv ov:ada}{cx ox:aev}{p:cy}{X bk:aeo}{ap:Int→Option vT}(h:dV w0 P R m L fu cv ov cx ox p X)(aw:aK (fun b=>b≠m) X bk)(hm:qY R bk m ap):dV w0 P R m L fu cv ov cx ox {p with jC:=ap} bk:=by
 obtain⟨es,x3,kA⟩:=h.mp.map;have hR:∀k,R k→k≠m:=fun k aw=>(h.hv k aw).oA;have me:∀{e:aai} {aR n:Nat} {v:ada} {xs:aev},X.ownsRow w0.heap.size e aR v n xs→∀k,v.ownBlock=some k→k≠m:=by intro e aR n v xs hr k aw;obtain⟨_,_,c,aB⟩:=ky hr aw;exact pO aB kA
 exact {
  pl:=aw.get (pO h.pl kA) h.pl
  mp:=hm
  kz:=h.kz
  er:=jk h.er aw (me h.er)
  ia:=h.ia.keep aw hR fun k hm=>by obtain⟨_,_,c,aB⟩:=h.ia.wL k hm;exact pO aB kA
  oB:=h.oB
  oC:=h.oC
  bg:=h.bg.keep aw hR fun k cur t aE _=>pO aE kA
  aD:=jk h.aD aw (me h.aD)
  lI:=h.lI.keep (aw.mono fun k _ aw=>hR k aw)
  ej:=jk h.ej aw (me h.ej)
  oD:=h.oD
  h0:=fun k CL=>⟨(h.h0 k CL).1,hN (h.h0 k CL).2 aw.size⟩
  hv:=h.hv
  l9:=h.l9
  mK:=h.mK
  aM:=h.aM.trans (aw.below _ h.aM.size fun k aw e=>by have:=h.mK;omega)}
theorem anm{cu:List Int}{u:Int}{ms:List mo}{x:dq×Int}(h:vS [67] cu u ms=.ok x):cu.length=1∨cu.length=2:=by
 unfold vS at h;rw[aW (.inl rfl)] at h;simp only[D6] at h;split at h
 ·cases h
 ·omega
theorem ann{b':aeo}{o:Obj}(ay:Below (b5.alloc o).drew.heap.size (b5.alloc o).drew b'):b'.heap[b5.heap.size]?=some o:=ba (show (b5.alloc o).drew.heap[b5.heap.size]?=some o from cR b5 o) ay
abbrev ub(P D:Nat)(u:Int)(eZ ye bF:ada)(b5 x:aeo):Prop:=x.cell? ⟨P,0,none⟩=some (I u)∧ak x P 8 eZ∧ak x D 5 ye∧ak x D 10 bF∧an b5 b5 x
variable{eZ ye bF:ada}
theorem Ia{P:Nat}{u:Int}{v x:aeo}(ay:an v v x)(h:ub P D u eZ ye bF b5 v):ub P D u eZ ye bF b5 x:=⟨bD ay h.1,bD ay h.2.1,bD ay h.2.2.1,bD ay h.2.2.2.1,h.2.2.2.2.trans (ay.mono h.2.2.2.2.size)⟩
theorem ano{P:Nat}{u:Int}{v:aeo}(h:ub P D u eZ ye bF b5 v)(o:Obj):ub P D u eZ ye bF b5 (v.alloc o):=Ia (bh _ _) h
theorem anp{P:Nat}{u:Int}{w x:aeo}(hw:an w w b5)(h:ub P D u eZ ye bF b5 x):an w w x:=hw.trans (h.2.2.2.2.mono hw.size)
theorem yf{P:Nat}{u:Int}{x:aeo}(iY:P<b5.heap.size)(b4:D<b5.heap.size)(h:ub P D u eZ ye bF b5 x)(i:Nat)(v:ada):ub P D u eZ ye bF b5 (x.setCell (aj b5.heap.size i) v):=by
 have key:∀k j y,k<b5.heap.size→ak x k j y→(x.setCell (aj b5.heap.size i) v).cell? ⟨k,j,none⟩=some y:=by intro k j y aw hy;have e:(x.setCell (aj b5.heap.size i) v).heap[k]?=x.heap[k]?:=hC _ _ _ _ (by show k≠b5.heap.size;omega);simp only[World.cell?,e] at hy⊢;exact hy
 exact⟨key _ _ _ iY h.1,key _ _ _ iY h.2.1,key _ _ _ b4 h.2.2.1,key _ _ _ b4 h.2.2.2.1,h.2.2.2.2.setCell (p:=⟨b5.heap.size,i,none⟩) (aP _) _⟩
theorem anq{P:Nat}{u:Int}{x:aeo}(iY:P<b5.heap.size)(b4:D<b5.heap.size)(h:ub P D u eZ ye bF b5 x)(eC eu eO jm rP zr sH Fh Fi tE Li:ada):ub P D u eZ ye bF b5 (((((((((((x.setCell (aj b5.heap.size 0) eC).setCell (aj b5.heap.size 1) eu).setCell (aj b5.heap.size 2) eO).setCell (aj b5.heap.size 3) jm).setCell (aj b5.heap.size 4) rP).setCell (aj b5.heap.size 5) zr).setCell (aj b5.heap.size 6) sH).setCell (aj b5.heap.size 7) Fh).setCell (aj b5.heap.size 8) Fi).setCell (aj b5.heap.size 9) tE).setCell (aj b5.heap.size 10) Li):=
 yf iY b4 (yf iY b4 (yf iY b4 (yf iY b4 (yf iY b4 (yf iY b4 (yf iY b4 (yf iY b4 (yf iY b4 (yf iY b4 (yf iY b4 h _ _) _ _) _ _) _ _) _ _) _ _) _ _) _ _) _ _) _ _) _ _
theorem anr{S:afp}{w:aeo}(ay:¬S b)(v0 v1 v2 v3 v4 v5 v6 bS b0 v9 v10:ada):aK S w (((((((((((w.setCell (aj b 0) v0).setCell (aj b 1) v1).setCell (aj b 2) v2).setCell (aj b 3) v3).setCell (aj b 4) v4).setCell (aj b 5) v5).setCell (aj b 6) v6).setCell (aj b 7) bS).setCell (aj b 8) b0).setCell (aj b 9) v9).setCell (aj b 10) v10):=((((((((((aK.set (a:=⟨b,0,none⟩) ay v0).trans (aK.set (a:=⟨b,1,none⟩) ay v1)).trans (aK.set (a:=⟨b,2,none⟩) ay v2)).trans (aK.set (a:=⟨b,3,none⟩) ay v3)).trans (aK.set (a:=⟨b,4,none⟩) ay v4)).trans (aK.set (a:=⟨b,5,none⟩) ay v5)).trans (aK.set (a:=⟨b,6,none⟩) ay v6)).trans (aK.set (a:=⟨b,7,none⟩) ay bS)).trans (aK.set (a:=⟨b,8,none⟩) ay b0)).trans (aK.set (a:=⟨b,9,none⟩) ay v9)).trans (aK.set (a:=⟨b,10,none⟩) ay v10)
theorem ans{w:aeo}{z0 z1 z2 z3 z4 z5 gZ gR fM z9 j4:ada}{t:aai}(h:al w b (#[z0,z1,z2,z3,z4,z5,gZ,gR,fM,z9,j4]) t)(v0 v1 v2 v3 v4 v5 v6 bS b0 v9 v10:ada):(((((((((((w.setCell (aj b 0) v0).setCell (aj b 1) v1).setCell (aj b 2) v2).setCell (aj b 3) v3).setCell (aj b 4) v4).setCell (aj b 5) v5).setCell (aj b 6) v6).setCell (aj b 7) bS).setCell (aj b 8) b0).setCell (aj b 9) v9).setCell (aj b 10) v10).heap[b]?=some (.cells #[v0,v1,v2,v3,v4,v5,v6,bS,b0,v9,v10] t):=by have aF:(w.setCell (aj b 0) v0).heap[b]?=some (.cells #[v0,z1,z2,z3,z4,z5,gZ,gR,fM,z9,j4] t):=dt (k:=b) (i:=0) v0 h;have au:((w.setCell (aj b 0) v0).setCell (aj b 1) v1).heap[b]?=some (.cells #[v0,v1,z2,z3,z4,z5,gZ,gR,fM,z9,j4] t):=dt (k:=b) (i:=1) v1 aF;have ax:(((w.setCell (aj b 0) v0).setCell (aj b 1) v1).setCell (aj b 2) v2).heap[b]?=some (.cells #[v0,v1,v2,z3,z4,z5,gZ,gR,fM,z9,j4] t):=dt (k:=b) (i:=2) v2 au;have aA:((((w.setCell (aj b 0) v0).setCell (aj b 1) v1).setCell (aj b 2) v2).setCell (aj b 3) v3).heap[b]?=some (.cells #[v0,v1,v2,v3,z4,z5,gZ,gR,fM,z9,j4] t):=dt (k:=b) (i:=3) v3 ax;have bb:(((((w.setCell (aj b 0) v0).setCell (aj b 1) v1).setCell (aj b 2) v2).setCell (aj b 3) v3).setCell (aj b 4) v4).heap[b]?=some (.cells #[v0,v1,v2,v3,v4,z5,gZ,gR,fM,z9,j4] t):=dt (k:=b) (i:=4) v4 aA;have bj:((((((w.setCell (aj b 0) v0).setCell (aj b 1) v1).setCell (aj b 2) v2).setCell (aj b 3) v3).setCell (aj b 4) v4).setCell (aj b 5) v5).heap[b]?=some (.cells #[v0,v1,v2,v3,v4,v5,gZ,gR,fM,z9,j4] t):=dt (k:=b) (i:=5) v5 bb;have b8:(((((((w.setCell (aj b 0) v0).setCell (aj b 1) v1).setCell (aj b 2) v2).setCell (aj b 3) v3).setCell (aj b 4) v4).setCell (aj b 5) v5).setCell (aj b 6) v6).heap[b]?=some (.cells #[v0,v1,v2,v3,v4,v5,v6,gR,fM,z9,j4] t):=dt (k:=b) (i:=6) v6 bj;have cY:((((((((w.setCell (aj b 0) v0).setCell (aj b 1) v1).setCell (aj b 2) v2).setCell (aj b 3) v3).setCell (aj b 4) v4).setCell (aj b 5) v5).setCell (aj b 6) v6).setCell (aj b 7) bS).heap[b]?=some (.cells #[v0,v1,v2,v3,v4,v5,v6,bS,fM,z9,j4] t):=dt (k:=b) (i:=7) bS b8;have dM:(((((((((w.setCell (aj b 0) v0).setCell (aj b 1) v1).setCell (aj b 2) v2).setCell (aj b 3) v3).setCell (aj b 4) v4).setCell (aj b 5) v5).setCell (aj b 6) v6).setCell (aj b 7) bS).setCell (aj b 8) b0).heap[b]?=some (.cells #[v0,v1,v2,v3,v4,v5,v6,bS,b0,z9,j4] t):=dt (k:=b) (i:=8) b0 cY;have e6:((((((((((w.setCell (aj b 0) v0).setCell (aj b 1) v1).setCell (aj b 2) v2).setCell (aj b 3) v3).setCell (aj b 4) v4).setCell (aj b 5) v5).setCell (aj b 6) v6).setCell (aj b 7) bS).setCell (aj b 8) b0).setCell (aj b 9) v9).heap[b]?=some (.cells #[v0,v1,v2,v3,v4,v5,v6,bS,b0,v9,j4] t):=dt (k:=b) (i:=9) v9 dM;have ly:(((((((((((w.setCell (aj b 0) v0).setCell (aj b 1) v1).setCell (aj b 2) v2).setCell (aj b 3) v3).setCell (aj b 4) v4).setCell (aj b 5) v5).setCell (aj b 6) v6).setCell (aj b 7) bS).setCell (aj b 8) b0).setCell (aj b 9) v9).setCell (aj b 10) v10).heap[b]?=some (.cells #[v0,v1,v2,v3,v4,v5,v6,bS,b0,v9,v10] t):=dt (k:=b) (i:=10) v10 e6;exact ly
end c1
