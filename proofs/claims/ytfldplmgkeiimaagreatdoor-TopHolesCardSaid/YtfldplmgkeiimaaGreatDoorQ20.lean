/- Lemmas. -/
import Derived.Test.YtfldplmgkeiimaaGreatDoorQ17
set_option linter.all false
set_option maxRecDepth 100000
set_option maxHeartbeats 12800000
namespace Go.Proofs.YtfldplmgkeiimaaGreatDoor
abbrev P3:=@Nat.mul_one
abbrev Iq:=@List.getElem?_append_left
abbrev U5:=@List.getLastD_eq_getLast?
abbrev Af:=@List.length_dropLast
abbrev U6:=@List.mem_of_getElem?
namespace dE
open Go.RowKit el
def qU(R:Jp)(B:Nat)(X:bTo)(k:Nat):Prop:=R k∨(B≤k∧∃cs,bo X k cs eE)
variable{w0 w:bTo}{P m B:Nat}{L:o3}{fu:Int}{cv ov:ada}{cx ox xs eS:bTv}{p:cG}
theorem qU.ne{R:Jp}{X:bTo}(h:eR w0 P R m L fu cv ov cx ox p X){k:Nat}(ab:qU R w0.heap.size X k):(w0.heap.size≤k∧k<X.heap.size)∧LD P m L cv ov k:=by
 rcases ab with ab|⟨bJ,cs,ab⟩
 ·exact⟨h.jJ k ab,h.jK k ab⟩
 ·exact⟨⟨bJ,lt_of_heap ab⟩,h.amt ab (by decide) (by decide) (by decide) (by decide) (by decide)⟩
theorem am6{R:Jp}{g n cap:Nat}{l:List bp}(h:w.ownsRow B eE 2 (bG g 0 n cap) n (nP l))(hn:n=l.length)(af:l.length≤nA)(hR:R g):hX R w (some (ag g 0)) l:=by have aa:=(hX.own (R:=fun k=>k=g∨B≤k) h hn af (fun k ab=>.inr ab)).1;refine⟨af,fun aj=>?_⟩;obtain⟨b,o,cs,e,_,aF,hc⟩:=aa.2 aj;injection e with e;injection e with aN aR;subst aN;exact⟨g,o,cs,by rw[←aR],hR,aF,hc⟩
theorem rN.all{R:Jp}{X:bTo}{cs:List (List bp)}(h:rN R B X cv cs xs)(af:∀c∈cs,c.length≤nA):∀i (hi:i<cs.length),∃q c,xs[i]?=some (.slice q cs[i].length c)∧cs[i].length≤c∧hX (qU R B X) X q cs[i]:=by
 intro i hi;by_cases aj:i+1<cs.length
 ·obtain⟨q,c,aa,ah,ax⟩:=h.init i aj;exact⟨q,c,aa,ah,ax.mono fun k _ ab=>.inl ab⟩
 ·obtain⟨g,c,aa,ah,ax⟩:=h.last i hi (by omega);obtain⟨bJ,cur,gv⟩:=o1 ah;have bg:=hX.own (R:=fun k=>B≤k) ah rfl (af _ (j4 hi)) (fun k ab=>ab);exact⟨_,c,aa,bg.2,am6 ah rfl (af _ (j4 hi)) (.inr ⟨bJ,cur,gv⟩)⟩
theorem am7{g:Nat}{x y:ada}(B:Nat)(bJ:B≤g)(h:bo w g (#[x,y]) eE):w.ownsRow B eE 2 (bG g 0 1 1) 1 [x,y]:=⟨rfl,.inr ⟨g,1,_,rfl,bJ,h,bD _,by decide,rfl,rfl⟩⟩
theorem eR.am8{w0:bTo}{P:Nat}{R:Jp}{m:Nat}{L:o3}{fu:Int}{cv ov:ada}{cx ox:bTv}{p:cG}{X Y cb:bTo}{n gg g c:Nat}{tx ty:Int}
  (h:eR w0 P R m L fu cv ov cx ox p X) (hn:p.bO.length=n) (mw:∀c∈p.bO,c.length≤nA) (pF:av X X Y) (awH:X.heap.size≤g) (Ir:bo Y g (#[I tx,I ty]) eE)
  (aX:Y.grownBy cb cv.ownBlock) (cM:cb.ownsRow w0.heap.size fo 1 (bG gg 0 (n+1) c) (n+1) (cx++[ad (some (ag g 0)) 1 1])) (hw:some gg=cv.ownBlock∨Y.heap.size≤gg):
  eR w0 P (qU R w0.heap.size X) m L fu (bG gg 0 (n+1) c) ov (cx++[ad (some (ag g 0)) 1 1]) ox {p with bO:=p.bO++[[(tx,ty)]]} (cb.setCell (ag P 20) (bG gg 0 (n+1) c)):=by
 have Im:=h.aY.size;obtain⟨tO,cur,gv⟩:=o1 cM;have ih:=h.below pF;have hne:∀k cs t ef,Y.heap[k]?=some (.cells cs t ef)→t≠fo→cv.ownBlock≠some k∧k≠gg:=by intro k cs t ef ab bH;have aa:=ni ih.bj.own ab (fN bH);exact⟨aa,jb ((aX.block k (lt_of_heap ab) (fN aa)).trans ab) gv bH⟩
 have zV:∀k es c,Y.heap[k]?=some (.map es c)→cv.ownBlock≠some k∧k≠gg:=by intro k es c ab;have aa:=PV ih.bj.own ab;exact⟨aa,(sP gv ((aX.block k (lt_of_heap ab) (fN aa)).trans ab)).symm⟩
 have PZ:aL (fun k=>cv.ownBlock≠some k∧k≠P) Y (cb.setCell (ag P 20) (bG gg 0 (n+1) c)):=(aL.grown aX fun k e ab=>ab.1 e).trans (aL.set (a:=⟨P,20,none⟩) (fun ab=>ab.2 rfl) _);have hK:aL (fun k=>cv.ownBlock≠some k∧k≠P) X (cb.setCell (ag P 20) (bG gg 0 (n+1) c)):=(aL.dM pF).trans PZ;have Ab:∀k cs t ef,X.heap[k]?=some (.cells cs t ef)→t≠fo→t≠rP→cv.ownBlock≠some k∧k≠P:=fun k cs t ef ab aa ah=>⟨ni h.bj.own ab (fN aa),jb ab h.pl ah⟩;have P4:=ih.pl;have am9:=hne _ _ _ _ P4 (by decide);have vv:bo cb P (LC p fu m L cv) rP:=(aX.block P (lt_of_heap P4) (fN am9.1)).trans P4;have lA:∀k,qU R w0.heap.size X k→cv.ownBlock≠some k∧k≠P:=fun k ab=>⟨(qU.ne h ab).2.Ig,(qU.ne h ab).2.FJ⟩;have ana:¬qU R w0.heap.size X g:=fun ab=>by have:=(qU.ne h ab).1.2;omega
 have anb:∀k,some k=some gg→¬qU R w0.heap.size X k:=by
  intro k e ab;injection e with e;subst e;rcases hw with e|e
  ·exact (qU.ne h ab).2.Ig e.symm
  ·have:=(qU.ne h ab).1.2;have:=pF.size;omega
 have hS:∀k,qU R w0.heap.size X k→cv.ownBlock≠some k∧k≠P:=lA;have hR:∀k,R k→cv.ownBlock≠some k∧k≠P:=fun k ab=>lA k (.inl ab);obtain⟨es,BD,o4⟩:=h.mp.map;have qq:∀{e:aui} {bn n:Nat} {v:ada} {xs:bTv},X.ownsRow w0.heap.size e bn v n xs→e≠fo→e≠rP→∀k,v.ownBlock=some k→cv.ownBlock≠some k∧k≠P:=by intro e bn n v xs hr aa ah k ab;obtain⟨_,_,c,hc⟩:=qS hr ab;exact Ab _ _ _ _ hc aa ah
 exact {
  pl:=by have:=c4 (k:=P) (i:=20) (bG gg 0 (n+1) c) vv;exact this
  mp:=(h.mp.mono fun k ab=>.inl ab).keep hK ⟨PV h.bj.own o4,(sP h.pl o4).symm⟩ hS
  nU:=h.nU
  e3:=ke h.e3 hK (qq h.e3 (by decide) (by decide))
  jv:=(h.jv.mono fun k ab=>.inl ab).keep hK hS fun k hm=>by obtain⟨_,_,c,hc⟩:=h.jv.Aa k hm;exact Ab _ _ _ _ hc (by decide) (by decide)
  rR:=h.rR
  sR:=h.sR
  bj:=by
   have hlen:(p.bO++[[(tx,ty)]]).length=n+1:=(by rw[gh,hn];rfl);have anc:(cb.setCell (ag P 20) (bG gg 0 (n+1) c)).heap[g]?=some (.cells #[I tx,I ty] eE):=PZ.get ⟨(hne _ _ _ _ Ir (by decide)).1,jb Ir P4 (by decide)⟩ Ir;have acb:cx.length=n:=(by rw[h.bj.own.1,hn,P3]);refine⟨?_,fun i hi=>?_,fun i hi he=>?_⟩
   ·show World.ownsRow _ _ _ _ _ (p.bO++[[(tx,ty)]]).length _;rw[hlen];exact wK cM (EX _ P 20 _) (.inr (ni cM vv (by decide)))
   ·have sq:i<p.bO.length:=(by have:i+1<(p.bO++[[(tx,ty)]]).length:=hi;omega);obtain⟨q,d,aa,ah,ax⟩:=h.bj.all mw i sq;have e:(p.bO++[[(tx,ty)]])[i]'(by omega)=p.bO[i]:=Km sq;show ∃q c,_=some (Value.slice q ((p.bO++[[(tx,ty)]])[i]'(by omega)).length c)∧((p.bO++[[(tx,ty)]])[i]'(by omega)).length≤c∧hX _ _ q ((p.bO++[[(tx,ty)]])[i]'(by omega));rw[e,Iq (by omega)];exact⟨q,d,aa,ah,ax.keep (hK.mono fun k _ ab=>lA k ab)⟩
   ·have LP:i=n:=(by have:i+1=(p.bO++[[(tx,ty)]]).length:=he;omega);subst LP;have e:(p.bO++[[(tx,ty)]])[i]'(by omega)=[(tx,ty)]:=(by rw[Oj (by omega)];simp[hn]);show ∃g c,_=some (Value.slice (some (ag g 0)) ((p.bO++[[(tx,ty)]])[i]'(by omega)).length c)∧World.ownsRow _ _ _ _ (bG g 0 (((p.bO++[[(tx,ty)]])[i]'(by omega)).length) c) ((p.bO++[[(tx,ty)]])[i]'(by omega)).length (nP ((p.bO++[[(tx,ty)]])[i]'(by omega)))∧_;rw[e,zO (by omega),acb,Lw];exact⟨g,1,rfl,am7 _ (by omega) anc,ana⟩
  an:=ke h.an hK (qq h.an (by decide) (by decide))
  nV:=(h.nV.mono fun k _ ab=>.inl ab).keep (hK.mono fun k _ ab=>lA k ab)
  fl:=ke h.fl hK (qq h.fl (by decide) (by decide))
  qT:=h.qT
  jJ:=fun k ab=>⟨(qU.ne h ab).1.1,jl (qU.ne h ab).1.2 hK.size⟩
  jK:=fun k ab=>{(qU.ne h ab).2 with Ig:=fun e=>anb k (by simpa[Value.ownBlock] using e.symm) ab}
  pK:=h.pK
  rS:=h.rS
  aY:=h.aY.trans (hK.below _ h.aY.size fun k ab=>⟨fun e=>by have:=(qS h.bj.own e).1;omega,by have:=h.pK;omega⟩)}
theorem ane{K n c i:Nat}{e:aui}{u:ada}(h:w.ownsRow B e 1 (bG K 0 n c) n xs)(hi:i<n):(w.setCell (ag K i) u).ownsRow B e 1 (bG K 0 n c) n (xs.set i u):=by
 refine⟨by rw[Ln];exact h.1,?_⟩;rcases h.2 with ⟨aS,_⟩|⟨k,cap,cur,ab,bJ,aF,aa,ah,ax,bg⟩
 ·cases aS
 ·injection ab with eA _ ga;injection eA with eA;injection eA with eA;subst eA ga;refine .inr ⟨K,c,cur.setIfInBounds i u,rfl,bJ,c4 u aF,aa,ah,by rw[AN];exact ax,?_⟩;rw[Px,Py,bg]
theorem eR.anf{w0:bTo}{P:Nat}{R:Jp}{m:Nat}{L:o3}{fu:Int}{cv ov:ada}{cx ox:bTv}{p:cG}{X Y cb:bTo}{n K P5 g cg gg c2 len:Nat}{c:List bp}{tx ty:Int}
  (h:eR w0 P R m L fu cv ov cx ox p X) (hn:p.bO.length=n+1) (hc:p.bO[n]?=some c) (pM:cv=ad (some (ag K 0)) (n+1) P5) (hlast:cx[n]?=some (ad (some (ag g 0)) len cg)) (hlen:c.length=len) (pF:av X X Y)
  (aX:Y.grownBy cb (some g)) (cM:cb.ownsRow w0.heap.size eE 2 (bG gg 0 (len+1) c2) (len+1) (nP c++[I tx,I ty])) (hw:some gg=some g∨Y.heap.size≤gg) (LQ:¬R g) (awI:w0.heap.size≤g) (Is:∃cur,bo X g cur eE):
  eR w0 P R m L fu cv ov (cx.set n (bG gg 0 (len+1) c2)) ox {p with bO:=mc p.bO (tx,ty)} (cb.setCell (ag K n) (bG gg 0 (len+1) c2)):=by
 subst pM;have ih:=h.below pF;obtain⟨tO,cur,gv⟩:=o1 cM;obtain⟨hi,rfl⟩:=List.getElem?_eq_some_iff.1 hc;obtain⟨awJ,Is⟩:=Is;have j9:=h.bj.own;rw[hn] at j9;obtain⟨awK,ang,It⟩:=o1 j9
 have U7:¬R gg:=by
  rcases hw with e|e
  ·injection e with e;rw[e];exact LQ
  ·intro ab;have:=(h.jJ gg ab).2;have:=pF.size;omega
 have Ag:aL (fun k=>k≠g∧k≠K) X (cb.setCell (ag K n) (bG gg 0 (len+1) c2)):=((aL.dM pF).trans (aL.grown aX fun k e ab=>ab.1 (by injection e with e;exact e.symm))).trans (aL.set (a:=⟨K,n,none⟩) (fun ab=>ab.2 rfl) _);have Ab:∀k cs t ef,X.heap[k]?=some (.cells cs t ef)→t≠fo→t≠eE→k≠g∧k≠K:=fun k cs t ef ab aa ah=>⟨jb ab Is ah,jb ab It aa⟩;have U8:∃b2,bo cb K b2 fo:=by have hne:K≠g:=jb It Is (by decide);exact⟨ang,(aX.block K (lt_of_heap (aO It pF)) (fun e=>hne (by injection e))).trans (aO It pF)⟩
 obtain⟨awL,U8⟩:=U8;have P6:∀k,R k→k≠g∧k≠K:=fun k ab=>⟨fun e=>LQ (e ▸ ab),fun e=>(h.jK k ab).Ig (by rw[e];rfl)⟩;have acb:cx.length=n+1:=by rw[j9.1,P3]
 have U9:mc p.bO (tx,ty)=p.bO.dropLast++[p.bO[n] ++[(tx,ty)]]:=by
  unfold mc
  congr 2
  rw[U5,UO,hn];simp only[Nat.add_sub_cancel];rw[jH hi];rfl
 have sy:(mc p.bO (tx,ty)).length=n+1:=by rw[U9,gh,Af,hn];rfl
 have hle:(mc p.bO (tx,ty))[n]?=some (p.bO[n] ++[(tx,ty)]):=by rw[U9,zO (by rw[Af];omega),Af,hn];simp
 obtain⟨es,BD,o4⟩:=h.mp.map;have qq:∀{e:aui} {bn n:Nat} {v:ada} {xs:bTv},X.ownsRow w0.heap.size e bn v n xs→e≠fo→e≠eE→∀k,v.ownBlock=some k→k≠g∧k≠K:=by intro e bn n v xs hr aa ah k ab;obtain⟨_,_,c,hc⟩:=qS hr ab;exact Ab _ _ _ _ hc aa ah
 exact {
  pl:=Ag.get (Ab _ _ _ _ h.pl (by decide) (by decide)) h.pl
  mp:=h.mp.keep Ag ⟨(sP Is o4).symm,(sP It o4).symm⟩ P6
  nU:=h.nU
  e3:=ke h.e3 Ag (qq h.e3 (by decide) (by decide))
  jv:=h.jv.keep Ag P6 fun k hm=>by obtain⟨_,_,c,hc⟩:=h.jv.Aa k hm;exact Ab _ _ _ _ hc (by decide) (by decide)
  rR:=h.rR
  sR:=h.sR
  bj:=by
   refine⟨?_,fun i sq=>?_,fun i sq he=>?_⟩
   ·show World.ownsRow _ _ _ _ _ (mc p.bO (tx,ty)).length _;rw[sy];have aa:World.ownsRow cb w0.heap.size fo 1 (bG K 0 (n+1) P5) (n+1) cx:=(by refine wK (fE j9 pF) aX (.inr ?_);intro e;have aR:K=g:=(by simpa[Value.ownBlock] using e);exact jb It Is (by decide) aR);exact ane aa (Eo _)
   ·have acd:i<n:=(by have:i+1<(mc p.bO (tx,ty)).length:=sq;omega);obtain⟨q,d,aa,ah,ax⟩:=h.bj.init i (by omega);have e:(mc p.bO (tx,ty))[i]'(by omega)=p.bO[i]:=(by have b7:(mc p.bO (tx,ty))[i]?=p.bO[i]?:=(by rw[U9,Iq (by rw[Af];omega),List.getElem?_dropLast,aT (by omega)]);rw[jH (by omega),jH (by omega)] at b7;injection b7);show ∃q c,_=some (Value.slice q ((mc p.bO (tx,ty))[i]'(by omega)).length c)∧((mc p.bO (tx,ty))[i]'(by omega)).length≤c∧hX _ _ q ((mc p.bO (tx,ty))[i]'(by omega));rw[e,List.getElem?_set_ne (by omega)];exact⟨q,d,aa,ah,ax.keep (Ag.mono fun k _ ab=>P6 k ab)⟩
   ·have LP:i=n:=(by have:i+1=(mc p.bO (tx,ty)).length:=he;omega);subst LP;have e:(mc p.bO (tx,ty))[i]'(by omega)=p.bO[i] ++[(tx,ty)]:=(by have b7:=hle;rw[jH (by omega)] at b7;injection b7);show ∃g c,_=some (Value.slice (some (ag g 0)) ((mc p.bO (tx,ty))[i]'(by omega)).length c)∧World.ownsRow _ _ _ _ (bG g 0 (((mc p.bO (tx,ty))[i]'(by omega)).length) c) ((mc p.bO (tx,ty))[i]'(by omega)).length (nP ((mc p.bO (tx,ty))[i]'(by omega)))∧_;rw[e,List.getElem?_set_self (by omega),gh,hlen];refine⟨gg,c2,rfl,?_,U7⟩;have cA:nP (p.bO[i] ++[(tx,ty)])=nP p.bO[i] ++[I tx,I ty]:=(by unfold nP;rw[List.flatMap_append];rfl);rw[cA];exact wK cM (EX _ K i _) (.inr (ni cM U8 (by decide)))
  an:=ke h.an Ag (qq h.an (by decide) (by decide))
  nV:=h.nV.keep (Ag.mono fun k _ ab=>P6 k ab)
  fl:=ke h.fl Ag (qq h.fl (by decide) (by decide))
  qT:=h.qT
  jJ:=fun k ab=>⟨(h.jJ k ab).1,jl (h.jJ k ab).2 Ag.size⟩
  jK:=h.jK
  pK:=h.pK
  rS:=h.rS
  aY:=h.aY.trans (Ag.below _ h.aY.size fun k ab=>⟨by omega,by omega⟩)}
theorem hX.pre{S:Jp}{q:aya}{l:List bp}(h:hX S w q l):hX S w q l.dropLast:=by refine⟨by rw[Af];exact dX (Nat.sub_le _ _) h.1,fun aj=>?_⟩;rw[Af] at aj;obtain⟨b,o,cs,e,hS,aF,hc⟩:=h.2 (by omega);refine⟨b,o,cs,e,hS,aF,fun i hi=>?_⟩;rw[Af] at hi;rw[List.getElem_dropLast];exact hc i (by omega)
theorem eR.anh{R:Jp}(h:eR w0 P R m L fu cv ov cx ox p w):
  eR w0 P R m L fu (ay 0) ov [] ox {p with bO:=[]} (w.setCell (ag P 20) (ay 0)):=by
 have ab:aL (fun k=>k≠P) w (w.setCell (ag P 20) (ay 0)):=aL.set (a:=⟨P,20,none⟩) (fun ab=>ab rfl) _;have hR:∀k,R k→k≠P:=fun k ab=>(h.jK k ab).FJ;have qq:∀{e:aui} {bn n:Nat} {v:ada} {xs:bTv},w.ownsRow w0.heap.size e bn v n xs→e≠rP→∀k,v.ownBlock=some k→k≠P:=by intro e bn n v xs hr aa k ab;obtain⟨_,_,c,hc⟩:=qS hr ab;exact jb hc h.pl aa
 exact {
  pl:=by have:=c4 (k:=P) (i:=20) (ay 0) h.pl;exact this
  mp:=h.mp.keep ab (by obtain⟨es,c,hm⟩:=h.mp.map;exact (sP h.pl hm).symm) hR
  nU:=h.nU
  e3:=ke h.e3 ab (qq h.e3 (by decide))
  jv:=h.jv.keep ab hR fun k hm=>by obtain⟨_,_,c,hc⟩:=h.jv.Aa k hm;exact jb hc h.pl (by decide)
  rR:=h.rR
  sR:=h.sR
  bj:=.nil _ _ _
  an:=ke h.an ab (qq h.an (by decide))
  nV:=h.nV.keep (ab.mono fun k _ Ih=>hR k Ih)
  fl:=ke h.fl ab (qq h.fl (by decide))
  qT:=h.qT
  jJ:=fun k Dv=>⟨(h.jJ k Dv).1,jl (h.jJ k Dv).2 ab.size⟩
  jK:=fun k ab=>{h.jK k ab with Ig:=by simp[Value.ownBlock]}
  pK:=h.pK
  rS:=h.rS
  aY:=h.aY.trans (ab.below _ h.aY.size fun k ga e=>by have:=h.pK;omega)}
def Iu(B:Nat)(X:bTo)(k:Nat):Prop:=B≤k∧∃cs t,bo X k cs t∧(t=eE∨t=fo)
theorem eR.rows{R:Jp}(h:eR w0 P R m L fu (ay 0) ov cx ox p w)(hc:p.bO=[]):
  eR w0 P (fun k=>R k∨Iu w0.heap.size w k) m L fu (ay 0) ov cx ox p w:=by
 refine h.more (fun k ab=>?_) fun _ _ _ _=>hc;obtain⟨bJ,cs,t,aF,bH⟩:=ab;refine⟨⟨bJ,lt_of_heap aF⟩,?_⟩;obtain⟨⟨_,a'⟩,⟨_,_,a2⟩,⟨_,a3⟩,a4,a5,rj,pg⟩:=h.kinds;have dK:t≠rP:=by rcases bH with rfl|rfl<;>decide
 have e':t≠nT:=by rcases bH with rfl|rfl<;>decide
 have n3:t≠dQ:=by rcases bH with rfl|rfl<;>decide
 have n4:t≠rQ:=by rcases bH with rfl|rfl<;>decide
 exact⟨jb aF a' dK,sP aF a2,jb aF a3 e',by simp[Value.ownBlock],ni h.an aF (fN n3),ni h.fl aF (fN n4),fun hm=>by obtain⟨c,hc⟩:=pg k hm;exact jb aF hc n3 rfl⟩
structure Ah(B D:Nat)(w:bTo)(cs:List (List bp))(e3:ada)(eS:bTv)(j:Nat)(x:bTo):Prop where
 dP:bo x D (#[I 2,I 0,I 0,I 0,I 0,I 0,I 0,I 0,e3,ay 0]) dh
 own:x.ownsRow (D+1) fo 1 e3 j eS
 aY:Below D w x
theorem Ah.below{D:Nat}{cs:List (List bp)}{e3:ada}{j:Nat}{x y:bTo}(h:Ah B D w cs e3 eS j x)(af:av x x y):Ah B D w cs e3 eS j y:=⟨aO h.dP af,fE h.own af,h.aY.trans (af.mono (CY (lt_of_heap h.dP)))⟩
theorem Ah.push{D:Nat}{cs:List (List bp)}{e3 P7:ada}{j:Nat}{x y:bTo}{u:ada}(h:Ah B D w cs e3 eS j x)(aX:x.grownBy y e3.ownBlock)(cM:y.ownsRow (D+1) fo 1 P7 (j+1) (eS++[u])):Ah B D w cs P7 (eS++[u]) (j+1) (y.setCell (ag D 8) P7):=by
 have aa:=ni h.own h.dP (by decide);have ah:y.heap[D]?=_:=(aX.block D (lt_of_heap h.dP) (fN aa)).trans h.dP;refine⟨?_,?_,?_⟩
 ·have:=c4 (k:=D) (i:=8) P7 ah;exact this
 ·exact wK cM (EX _ D 8 _) (.inr (ni cM ah (by decide)))
 ·have ax:Below D w y:=h.aY.grown aX (CY (lt_of_heap h.dP)) (fun k ab=>by have:=(h.own.lt k ab).1;omega);exact ax.setCell (p:=⟨D,8,none⟩) (bD _) _
theorem ace:(Tryz.prog.info? 78).map (fun i=>(i.zero,i.size,i.bytes))=some (some (ay 0),1,24):=by kernel_rfl
theorem ani:(Tryz.prog.info? 71).map (fun i=>(i.zero,i.size,i.bytes))=some (some (.agg #[I 0,I 0]),2,16):=by kernel_rfl
theorem DA{k:Nat}{a b:ada}{t:aui}(h:bo w k (#[a,b]) t):aw w k 0 a∧aw w k 1 b:=by constructor<;>simp[World.cell?,h]
abbrev FT(p:cG):Prop:=p.bO.length≤1000000∧∀c∈p.bO,0<c.length∧c.length≤1000000
theorem anj(w0:bTo)(P:Nat)(p:cG)(tx ty:Int)(bE w:bTo)(H:J (lF w0 P p bE))(dC:J (av bE bE w))(hs:FT p)(res:Except Nat cG)(dk:J (xP p (tx,ty)=res)):
  Calls Tryz.prog 148 #[dv P 0,.agg #[I tx,I ty]] w fun e w'=>fm w0 P res e w'∧aL (fun k=>bE.heap.size≤k) w w':=by
 obtain⟨R,m,L,fu,cv,ov,cx,ox,h⟩:=H.out;have H1:=U (h.below dC.out);have FU:J (P<bE.heap.size∧∀k,cv.ownBlock=some k→k<bE.heap.size):=⟨lt_of_heap h.pl,fun k e=>(qS h.bj.own e).2.1⟩;have cF:=U hs;obtain⟨rg,qs⟩:=az p.region;have sV:=U qs;have br:J ((if rg=false then .ok p else if oL p.bO=false then .error 4 else .ok {p with bO:=p.bO++[[(tx,ty)]]})=res):=by rw[←dk.out,←qs];rfl
 clear h hs H dk qs;go_enter Tryz.func148,Tryz.ntmps148;go_upto_region 1 with fail;have b9:=U (H1.out.below (ba w (aD (#[I tx,I ty]) eE)));have oX:J ((w.alloc (aD (#[I tx,I ty]) eE)).heap[w.heap.size]?=some (.cells #[I tx,I ty] eE)):=cw _ _;have ank:J (∀k,w.heap.size≤k→¬R k):=fun k ab h=>by have:=(H1.out.jJ k h).2;omega
 clear H1;have Ai:J (aL (fun k=>bE.heap.size≤k) w (w.alloc (aD (#[I tx,I ty]) eE))):=aL.alloc _ _ _;generalize w.alloc (.cells #[I tx,I ty] eE)=W at b9 oX Ai⊢;obtain⟨D,bZ⟩:=az w.heap.size;rw[bZ] at oX⊢;clear bZ ank;have qt:aw W P 19 (ai rg):=by rw[←sV.out];exact cell_of (i:=19) b9.out.pl rfl
 cases rg with
 |false=>
  have aE:J (.ok p=res):=br.out;go_wp2_with fail;go_ret;rw[←aE.out];exact⟨fm.mJ rfl b9.out,Ai.out⟩
 |true=>
  obtain⟨f,hf⟩:=az (oL p.bO);have bq:=U hf;have eg:J ((if f=false then .error 4 else .ok {p with bO:=p.bO++[[(tx,ty)]]})=res):=(by rw[←br.out,←hf];rfl);clear hf br;go_upto_region 3 with fail;have bB:J (lF w0 P p W):=⟨_,_,_,_,_,_,_,_,b9.out⟩;go_wp2_with fail;go_fit (abW w0 P p W bB cF.out f bq);rintro e bQ ⟨rfl,af⟩;have cS:=U (b9.out.below af);have kB:=U (aO oX.out af);have iV:=U (Ai.out.trans (aL.dM af));clear qt b9 oX bB af;cases f with
  |false=>
   have aE:J (.error 4=res):=eg.out;go_wp2_with fail;go_ret;rw[←aE.out];exact⟨⟨cS.out.aY,rfl⟩,iV.out⟩
  |true=>
   have aE:J (.ok {p with bO:=p.bO++[[(tx,ty)]]}=res):=eg.out;go_upto_region 5 with fail;obtain⟨n,hn⟩:=az p.bO.length;have UX:=U hn;have oG:n≤1000000:=(by rw[←hn];exact cF.out.1);have j9:World.ownsRow bQ w0.heap.size fo 1 cv p.bO.length cx:=cS.out.bj.own;rw[hn] at j9;clear hn eg;obtain⟨gq,jB,rfl⟩:=ik j9;have hP:J (((bQ.drew.alloc (aD (#[I tx,I ty]) eE)).alloc (aD (#[ad (some (ag bQ.heap.size 0)) 1 1]) fo)).ownsRow w0.heap.size fo 1 (ad gq n jB) n cx):=(j9.drew.alloc _).alloc _;clear j9;obtain⟨d0,d1⟩:=DA kB.out;have wZ:aw bQ P 20 (ad gq n jB):=cell_of (i:=20) cS.out.pl rfl;have f20:=cP cS.out.pl 20;have hh:=cS.out.aY.size;have qj:=lt_of_heap kB.out;have qu:=lt_of_heap cS.out.pl;have kL:J (av bQ bQ ((bQ.drew.alloc (aD (#[I tx,I ty]) eE)).alloc (aD (#[ad (some (ag bQ.heap.size 0)) 1 1]) fo))):=((Below.refl _ _).drew.alloc (bD _) _).alloc (by rw[show (bQ.drew.alloc (aD (#[I tx,I ty]) eE)).heap.size=bQ.heap.size+1 from Array.size_push _];exact l4 _) _;have ju:∀(cb:bTo),((bQ.drew.alloc (aD (#[I tx,I ty]) eE)).alloc (aD (#[ad (some (ag bQ.heap.size 0)) 1 1]) fo)).grownBy cb (Value.slice gq n jB).ownBlock→aw cb P 20 (ad gq n jB)∧cb.frozen? ⟨P,20,none⟩=false:=(by intro cb pB;have vv:=aO cS.out.pl kL.out;have aa:bo cb P (LC p fu m L (ad gq n jB)) rP:=(pB.block _ (lt_of_heap vv) (fN (ni hP.out vv (by decide)))).trans vv;exact⟨cell_of aa rfl,cP aa 20⟩);obtain⟨i0,hi,cU,cW,dz⟩:=info_parts ace;have bY:=U (And.intro hi (And.intro cU (And.intro cW dz)));clear hi cU cW dz
   go_region_law (first|(refine x5 _ (by rfl) _ _ _ (by rfl) w0.heap.size fo i0 (ay 0) 1 24 N3 bY.out.1 bY.out.2.1 bY.out.2.2.1 bY.out.2.2.2 rfl (by omega) (ad gq n jB) n _ (by rfl) hP.out (ag (bQ.heap.size+1) 0) 1 1 [bG bQ.heap.size 0 1 1] (by rfl) (by rfl) (jW (cs:= #[ad (some (ag bQ.heap.size 0)) 1 1]) (t:=fo) (fr:=(0,0)) (by rw[show bQ.heap.size+1=(bQ.drew.alloc (aD (#[I tx,I ty]) eE)).heap.size from (Array.size_push _).symm];exact gi _ _)) (by simp[Value.oneCell']) (by omega) (by unfold maxLen;omega) (by omega) (by simp;omega) (bQ.heap.size+1+1) (by simp) ?_;intro gg il bt cM dW e0 h5;obtain⟨bN,ch⟩:=ju bt dW)|fail)
   all_goals
    have i6:=eR.am8 (tx:=tx) (ty:=ty) cS.out UX.out (fun c hc=>by have:=(cF.out.2 c hc).2;show _≤1000000000;omega) kL.out (bD _) (aO (k:=bQ.heap.size) (cw bQ.drew (aD (#[I tx,I ty]) eE)) (ba _ _)) dW cM (e0.imp HZ (fun h=>by rw[h];exact Nat.le_of_eq (by rw[show ((bQ.drew.alloc (aD (#[I tx,I ty]) eE)).alloc (aD (#[ad (some (ag bQ.heap.size 0)) 1 1]) fo)).heap.size=(bQ.drew.alloc (aD (#[I tx,I ty]) eE)).heap.size+1 from Array.size_push _,show (bQ.drew.alloc (aD (#[I tx,I ty]) eE)).heap.size=bQ.heap.size+1 from Array.size_push _])));have kC:=U ((iV.out.trans (aL.dM kL.out)).trans ((aL.grown dW (fun k e ab=>Lc (FU.out.2 k e) ab)).trans (aL.set (a:=⟨P,20,none⟩) (fun ab=>Lc FU.out.1 ab) (bG gg 0 (n+1) il))));clear cM dW e0 h5 bN ch d0 d1 wZ f20 ju;go_wp2_with fail;go_ret;rw[←aE.out];exact⟨fm.mJ rfl i6,kC.out⟩
abbrev gP:TypeId:=104
theorem anl(w0:bTo)(P:Nat)(p:cG)(ca cN cn cC:Int)(db:Bool)(bj eM eN:aia)(dd bv:ada)(tx ty bz bK:Int)(bE w:bTo)(H:J (lF w0 P p bE))(dC:J (av bE bE w))(hs:FT p)(Iv:p.mode=1)(acf:p.region=true)(hne:p.bO≠[]):
  Calls Tryz.prog 147 #[dv P 0,.agg #[I ca,I cN,I cn,I cC,ai db,au bj,au eM,au eN,au ⟨#[]⟩,au ⟨#[]⟩,dd,bv],.agg #[I tx,I ty],.agg #[I bz,I bK]] w fun e w'=>fm w0 P (.ok {p with bO:=mc p.bO (tx,ty)}) e w'∧aL (fun k=>bE.heap.size≤k) w w':=by
 obtain⟨R,m,L,fu,cv,ov,cx,ox,h⟩:=H.out;have H1:=U (h.below dC.out);have ho:=U h;have cF:=U hs;have anm:=U Iv;have ann:=U acf;obtain⟨n,hn⟩:∃n,p.bO.length=n+1:=⟨p.bO.length-1,by cases hc:p.bO with|nil=>exact absurd hc hne|cons a l=>simp⟩;obtain⟨c,hc⟩:∃c,p.bO[n]?=some c:=⟨p.bO[n]'(by omega),jH _⟩;have a1:=U hn;have bq:=U hc;obtain⟨len,hlen⟩:=az c.length;have dR:=U hlen;have P8:len≤1000000:=by rw[←hlen];exact (hs.2 c (U6 hc)).2
 have oG:n+1≤1000000:=by rw[←hn];exact hs.1
 clear h H hs Iv acf hne hn hc hlen;go_enter Tryz.func147,Tryz.ntmps147;go_upto_region 1 with fail;obtain⟨W,a6⟩:=az (((w.alloc (aD (#[I ca,I cN,I cn,I cC,ai db,au bj,au eM,au eN,au ⟨#[]⟩,au ⟨#[]⟩,dd,bv]) gP)).alloc (aD (#[I tx,I ty]) eE)).alloc (aD (#[I bz,I bK]) eE));have aH:J (av w w W):=by show Below _ _ _;rw[←a6];exact (ba _ _).trans (((ba _ _).trans ((ba _ _).mono (ba _ _).size)).mono (ba _ _).size)
 have bm:J (∃D E,bo W D (#[I ca,I cN,I cn,I cC,ai db,au bj,au eM,au eN,au ⟨#[]⟩,au ⟨#[]⟩,dd,bv]) gP∧bo W E (#[I tx,I ty]) eE∧w.heap.size=D∧w.heap.size+1=E):=by
  refine⟨w.heap.size,w.heap.size+1,?_,?_,rfl,rfl⟩
  ·rw[←a6];exact aO (aO (cw w _) (ba _ _)) (ba _ _)
  ·rw[←a6];exact aO (by rw[show w.heap.size+1=(w.alloc (aD (#[I ca,I cN,I cn,I cC,ai db,au bj,au eM,au eN,au ⟨#[]⟩,au ⟨#[]⟩,dd,bv]) gP)).heap.size from (Array.size_push _).symm];exact cw _ _) (ba _ _)
 rw[a6];clear a6;have b9:=U (H1.out.below aH.out);obtain⟨D,E,bZ,uT,gQ,qF⟩:=bm.out;rw[gQ] at qF;rw[gQ,qF];have oX:=U bZ;have oy:=U uT;have iC:J (av bE bE W):=dC.out.trans (aH.out.mono dC.out.size);have Ai:J (aL (fun k=>bE.heap.size≤k) w W):=aL.dM aH.out;clear bZ uT gQ qF bm aH H1;have d8:aw W D 8 (au ⟨#[]⟩):=cell_of (i:=8) oX.out rfl;have d9:aw W D 9 (au ⟨#[]⟩):=cell_of (i:=9) oX.out rfl;have dq:aw W P 11 (I 1):=by rw[←anm.out];exact cell_of (i:=11) b9.out.pl rfl
 have qt:aw W P 19 (ai true):=by rw[←ann.out];exact cell_of (i:=19) b9.out.pl rfl
 obtain⟨K,P5,g,cg,pM,nR,Kq,eh,LQ⟩:=ho.out.bj.US a1.out bq.out;subst pM;have FU:J (K<bE.heap.size∧g<bE.heap.size):=⟨(ho.out.bj.own.lt K rfl).2,(eh.lt g rfl).2⟩;have nR:=bM iC.out nR;have eh:=fE eh iC.out;rw[dR.out] at nR eh;have wZ:aw W P 20 (ad (some (ag K 0)) (n+1) P5):=cell_of (i:=20) b9.out.pl rfl;have cT:=U (And.intro nR True.intro);have acg:=U eh;have ano:=U LQ;clear nR Kq eh LQ;have l8:(((n:Int)+1==0):Bool)=false:=by rw[kO];omega
 have k6:bT ((n:Int)+1-1)=(n:Int):=by rw[b4 _ (by omega)];omega
 have kI:(n:Int)<(n:Int)+1:=by omega
 have cU:(0:Int)≤(n:Int):=by omega
 go_upto_region 11 with fail
 go_quiet (fail)
 have cS:=U (b9.out.below (gj (Below.refl _ _) nq));have qL:=U (aO oy.out (gj (Below.refl _ _) nq));have kq:=U (bM (gj (Below.refl _ _) nq) cT.out.1);have U':=U (fE acg.out (gj (Below.refl _ _) nq));clear dq qt wZ d8 d9 b9 oy oX cT acg;have iV:J (aL (fun k=>bE.heap.size≤k) w (W.drewN nq)):=Ai.out.trans (aL.dM (gj (Below.refl _ _) nq));generalize W.drewN nq=bQ at cS qL kq U' iV⊢;obtain⟨awM,awN,awO,awP,pM,nB,aab,_,_⟩:=cS.out.bj.US a1.out bq.out;injection pM with LR _ Va;injection LR with LR;injection LR with LR;subst LR Va;clear nB;have Vb:=kq.out;obtain⟨cJ,aN⟩:=DA qL.out;have ach:=lt_of_heap qL.out;have hh:=cS.out.aY.size;have Vc:=o1 U'.out;have P9:∃b2,bo bQ K b2 fo:=by have h:=cS.out.bj.own;rw[a1.out] at h;exact (o1 h).2
 have awQ:K<bQ.heap.size:=by obtain⟨b2,h⟩:=P9;exact lt_of_heap h
 have anp:K≠g:=by obtain⟨b2,h⟩:=P9;obtain⟨_,gc,ah⟩:=Vc;exact jb h ah (by decide)
 have hP:J ((bQ.drew.alloc (aD (#[I tx,I ty]) eE)).ownsRow w0.heap.size eE 2 (bG g 0 len cg) len (nP c)):=U'.out.drew.alloc _;have kL:J (av bQ bQ (bQ.drew.alloc (aD (#[I tx,I ty]) eE))):=(Below.refl _ _).drew.alloc (bD _) _;have ju:∀(cb:bTo),(bQ.drew.alloc (aD (#[I tx,I ty]) eE)).grownBy cb (Value.slice (some (ag g 0)) len cg).ownBlock→aw cb K n (ad (some (ag g 0)) len cg)∧cb.frozen? ⟨K,n,none⟩=false:=by intro cb pB;obtain⟨b2,h⟩:=P9;have aQ:=aO h kL.out;have aa:bo cb K b2 fo:=(pB.block _ (lt_of_heap aQ) (fun e=>anp (by simpa[Value.ownBlock] using e))).trans aQ;refine⟨?_,cP aa n⟩;have ah:=Vb;simp only[World.cell?,h,aa] at ah⊢;exact ah
 obtain⟨i0,hi,cU,cW,dz⟩:=info_parts ani;have bY:=U (And.intro hi (And.intro cU (And.intro cW dz)));have aci:=U Vc;clear hi cU cW dz Vc P9;go_upto_region 12 with fail
 go_region_law (first|(refine x5 _ (by rfl) _ _ _ (by rfl) w0.heap.size eE i0 (.agg #[I 0,I 0]) 2 16 Sv bY.out.1 bY.out.2.1 bY.out.2.2.1 bY.out.2.2.2 rfl (by omega) (bG g 0 len cg) len _ (by rfl) hP.out (ag bQ.heap.size 0) 1 1 [I tx,I ty] (by rfl) (by rfl) (jW (cs:= #[I tx,I ty]) (t:=eE) (fr:=(0,0)) (gi bQ _)) (by simp[Value.oneCell']) (by omega) (by unfold maxLen;omega) (by omega) (by simp;omega) (bQ.heap.size+1) (by simp) ?_;intro gg il bt cM dW e0 h5;obtain⟨bN,ch⟩:=ju bt dW)|fail)
 all_goals
  have i6:=eR.anf (tx:=tx) (ty:=ty) (c2:=il) (gg:=gg) cS.out a1.out bq.out rfl (cg:=cg) (g:=g) (len:=len) ?hlast dR.out kL.out dW cM (e0.imp HZ (fun h=>by rw[h];exact Nat.le_of_eq (Array.size_push _))) ano.out aci.out.1 aci.out.2
  case hlast=>
   have h:=cS.out.bj.own;rw[a1.out] at h;exact (h.cellAt n (by omega)).symm.trans Vb
  have kC:=U ((iV.out.trans (aL.dM kL.out)).trans ((aL.grown dW (fun k e ab=>Lc (show k<bE.heap.size by have ea:g=k:=(by simpa[Value.ownBlock] using e);rw[←ea];exact FU.out.2) ab)).trans (aL.set (a:=⟨K,n,none⟩) (fun ab=>Lc FU.out.1 ab) (bG gg 0 (len+1) il))));clear cM dW e0 h5 bN ch cJ aN ju Vb;go_wp2_with fail;go_ret;exact⟨fm.mJ rfl i6,kC.out⟩
end dE
