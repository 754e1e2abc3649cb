/- Lemmas. -/
import Derived.Test.YtfldplmgkeiimaaGreatDoorR33
set_option linter.all false
set_option maxRecDepth 100000
set_option maxHeartbeats 25600000
namespace Go.Proofs.YtfldplmgkeiimaaGreatDoor
namespace dd
open Go.RowKit ef
def iV(l:List e3):List Value:=l.flatMap fun c=>[I c.1,I c.2]
theorem adf(l:List e3)(c:e3):iV (l++[c])=iV l++[I c.1,I c.2]:=by simp[iV]
abbrev U3:Value:=.agg #[I 0,I 0]
theorem apR:(Tryz.prog.info? 43).map (fun i=>(i.zero,i.size,i.bytes))=some (some U3,2,16):=by kernel_rfl
def apS(W:aeo)(sv0 sv:ada):Prop:=∀k,sv.ownBlock=some k→W.heap.size≤k∨sv0.ownBlock=some k
abbrev uC(W:aeo)(bG:Nat)(sv0:ada):Nat→Prop:=fun k=>k<W.heap.size∧k≠bG∧some k≠sv0.ownBlock
structure nx(W:aeo)(bG:Nat)(sv0:ada)(b5 a:Int)(sv:ada)(acc:List e3)(x:aeo):Prop where
 k:aP (uC W bG sv0) W x
 row:∃B,B≤x.heap.size∧x.ownsRow B oO 2 sv acc.length (iV acc)
 inv:apS W sv0 sv
 mt:x.heap[bG]?=some (ib b5 a)
variable{W x y w w':aeo}{bG:Nat}{b5 a dj:Int}{acc:List e3}
theorem nx.step{sv0 sv:ada}{k3:Int}(h:nx W bG sv0 b5 a sv acc x)(ay:aP (fun k=>k≠bG) x y)(hm:y.heap[bG]?=some (ib b5 k3)):nx W bG sv0 b5 k3 sv acc y:=by
 obtain⟨B,U4,hr⟩:=h.row;refine⟨h.k.trans (ay.mono (R:=uC W bG sv0) (fun k _ hs=>hs.2.1)),⟨B,dx U4 ay.size,?_⟩,h.inv,hm⟩;rcases hr.2 with ⟨aY,aS⟩|⟨b,cap,cur,aY,bK,aK,av⟩
 ·exact⟨hr.1,.inl ⟨aY,aS⟩⟩
 ·refine⟨hr.1,.inr ⟨b,cap,cur,aY,bK,ay.get ?_ aK,av⟩⟩;intro e;rw[e,h.mt] at aK;injection aK with aK;injection aK with _ bE;exact absurd bE (by decide)
theorem nx.below{sv0 sv:ada}(h:nx W bG sv0 b5 a sv acc x)(ax:ao x x y):nx W bG sv0 b5 a sv acc y:=h.step (aP.dW ax) (aU h.mt ax)
theorem nx.push{sv0 sv sv':ada}{X:aeo}(h:nx W bG sv0 b5 a sv acc X){B g' n' c':Nat}{xs:aev}{c:e3}(hr:X.ownsRow B oO 2 sv n' xs)(aF:X.grownBy y sv.ownBlock)(c0:y.ownsRow B oO 2 sv' (acc.length+1) (iV acc++[I c.1,I c.2]))(bK:B≤X.heap.size)(eX:sv.ownBlock=some g'∨g'=X.heap.size)(SK:sv'=ad (some (aj g' 0)) (acc.length+1) c'):nx W bG sv0 b5 a sv' (acc++[c]) y:=by
 refine⟨h.k.trans (aP.grown aF (fun k ay hs=>?_)),⟨B,dx bK aF.size,?_⟩,fun k ay=>?_,(aF.block bG (lt_of_heap h.mt) (gu (m' hr h.mt (by decide)))).trans h.mt⟩
 ·rcases h.inv k ay with av|av
  ·exact absurd hs.1 (by omega)
  ·exact hs.2.2 av.symm
 ·rw[adf,iv];exact c0
 ·rw[SK] at ay;simp only[Value.ownBlock,n7] at ay;subst ay;rcases eX with av|av
  ·exact h.inv _ av
  ·exact .inl (by rw[av];exact h.k.size)
theorem nx.outer{sv0 sv:ada}(h:nx W bG sv0 b5 a sv acc x)(hK:aP (fun k=>k≠bG) w W)(hS:∀k,sv0.ownBlock=some k→w.heap.size≤k):aP (fun k=>k≠bG) w x:=
 ⟨h.k.os.trans hK.os,h.k.tape.trans hK.tape,h.k.output.trans hK.output,dx hK.size h.k.size,fun k ay aA=>(h.k.block k ⟨km aA hK.size,ay,fun e=>absurd (hS k e.symm) (by omega)⟩ (km aA hK.size)).trans (hK.block k ay aA)⟩
def Lb(R:afp)(w:aeo)(sv:ada)(l:List e3):Prop:=∃B,w.ownsRow B oO 2 sv l.length (iV l)∧∀k,sv.ownBlock=some k→R k
def wh(bG:Nat)(b5:Int)(w:aeo)(r:Option (List e3)× Int)(e:Ending)(w':aeo):Prop:=
 w'.heap[bG]?=some (ib b5 (b5-r.2))∧aP (fun k=>k≠bG) w w'∧match r.1 with
  |none=>e=ab (.tuple #[J 0,I 6])
  |some l=>∃sv,e=ab (.tuple #[sv,I 0])∧Lb (fun k=>w.heap.size≤k) w' sv l
theorem toNat_lt{n i:Nat}(hn:a.toNat=n)(aS:0≤a):(i<n↔(i:Int)<a):=by omega
theorem PF(h:w.grownBy w' none):ao w w w':=⟨h.os,h.tape,h.output,h.size,fun k ay=>h.block k ay (by simp)⟩
theorem nx.back{td:aeo}{sv0 sv sv':ada}{k3:Int}{adg:List e3}(h:nx W bG sv0 b5 a sv acc x)(hx:aP (fun k=>k≠bG) x td)(g:nx td bG sv b5 k3 sv' adg y):nx W bG sv0 b5 k3 sv' adg y:=by
 have iF:W.heap.size≤td.heap.size:=dx h.k.size hx.size;refine⟨(h.k.trans (hx.mono (R:=uC W bG sv0) (fun k _ hs=>hs.2.1))).trans (g.k.mono (R:=uC W bG sv0) (fun k _ hs=>⟨km hs.1 iF,hs.2.1,fun e=>?_⟩)),g.row,fun k ay=>?_,g.mt⟩
 ·rcases h.inv k e.symm with av|av
  ·exact absurd hs.1 (by omega)
  ·exact hs.2.2 av.symm
 ·rcases g.inv k ay with av|av
  ·exact .inl (dx iF av)
  ·exact h.inv k av
theorem nx.put{sv0 sv:ada}{cU:aeo}(h:nx W bG sv0 b5 a sv acc x){c i:Nat}{cs:ajv}(hWIs:W.heap.size≤cU.heap.size)(hc:cU.heap.size≤c)(cz:an x c cs oO)(aF:bG<cU.heap.size)(eD:∀k,sv.ownBlock=some k→k≠c)(u:ada):nx W bG sv0 b5 a sv acc (x.setCell (aj c i) u):=by obtain⟨B,U4,hr⟩:=h.row;refine⟨h.k.wb (by omega) u,⟨B,dx U4 (by simp[World.setCell]),zQ hr (Jb x c i u) (.inr (fun e=>eD c e rfl))⟩,h.inv,(iK (by omega)).trans h.mt⟩
theorem apT(v:kH)(x y:Nat):(o0 v x y).aL -(o0 v x y).aD=v.jy∧(o0 v x y).aH -(o0 v x y).aE=v.jy:=by simp only[o0];omega
theorem apU{b:ck}(h:(b.aD≤b.aL∧b.aE≤b.aH)∧(-536870912≤b.aD∧b.aL≤536870912)∧(-536870912≤b.aE∧b.aH≤536870912)):okB b=true:=by simp only[okB,tD,jh,jR];omega
variable{v:kH}
theorem apV(aY:rm v=true){x y:Nat}(hx:(x:Int)<v.w)(hy:(y:Int)<v.h):okB (o0 v x y)=true:=by
 obtain⟨⟨d0,d6⟩,⟨fO,fh⟩,⟨a0,bA⟩,⟨cu,cS⟩,⟨aD,aL⟩,⟨aE,aH⟩,eF⟩:=EK aY;obtain⟨av,az,aC,bt,cr⟩:=Pt eF;simp only at av az aC bt cr;have a7:0≤(x:Int) *v.jy:=jV (by omega) (by omega);have bf:0≤(v.w-1-x) *v.jy:=jV (by omega) (by omega);have cM:(v.w-1-x) *v.jy=v.w *v.jy-v.jy-x *v.jy:=by grind
 have f1:0≤(v.h-1 -(y:Int)) *v.jy:=jV (by omega) (by omega);have f2:0≤(y:Int) *v.jy:=jV (by omega) (by omega);have f3:(v.h-1 -(y:Int)) *v.jy=v.h *v.jy-v.jy-y *v.jy:=by grind
 refine apU ?_;simp only[o0];omega
theorem apW(aY:rm v=true):v.jy%2^v.depth.toNat=0∧0<v.jy:=by
 have h:=aY;obtain⟨_,⟨fO,_⟩,_⟩:=EK aY;unfold rm at h;split at h
 ·cases h
 ·split at h
  ·cases h
  ·rename_i az;exact⟨by omega,by omega⟩
theorem apX(v:kH)(g:List fL)(y k x:Nat)(acc:List e3)(m:Int){o:Option e3}(h:py v.depth.toNat (gV g (o0 v x y)) (o0 v x y) m=(o,dj)):mD v g y (k+1) x acc m=o.elim (none,dj) (fun c=>mD v g y k (x+1) (acc++[c]) dj):=by rw[mD,h];cases o<;>rfl
theorem apY(v:kH)(g:List fL)(k y:Nat)(acc:List e3)(m:Int){o:Option (List e3)}(h:mD v (gV g (IK v y)) y v.w.toNat 0 acc m=(o,dj)):nI v g (k+1) y acc m=o.elim (none,dj) (fun a=>nI v g k (y+1) a dj):=by rw[nI,h];cases o<;>rfl
abbrev U5(W:aeo)(bG g0:Nat)(ch:Int)(g:Nat)(p q:Ja)(n c e:Nat)(mo:Nat)(a0 bA a2 a3:Int)(Z:aeo):Prop:=
 Z.cell? ⟨g0,5,none⟩=some (I ch)∧PD W bG g p q n c e mo a0 bA a2 a3 Z
theorem apZ{Z:aeo}{g0:Nat}{g:Nat}{p q:Ja}{n c e:Nat}{mo:Nat}{a0 bA a2 a3:Int}(aY:W.heap[g0]?=some (uA v))(aF:an W g (lp p n c q e) ja)(ax:W.heap[mo]?=some (cV ⟨a0,bA,a2,a3⟩))(n0:g0≠bG)(en:g≠bG)(fa:mo≠bG)(ay:aP (fun k=>k≠bG) W Z):U5 W bG g0 v.depth g p q n c e mo a0 bA a2 a3 Z:=
 ⟨cell_of (ay.get n0 aY) rfl,acZ aF ax en fa ay⟩
theorem ap0(S:afp)(l:List eu)(aA:∀o∈l,sD o.2)(p:Ja)(n c:Nat)(hn:n=l.length)(v:kH)(aY:rm v=true)(bG:Nat)(hS:¬S bG)(b5 m:Int)(hm:0≤m∧m≤b5∧b5≤100000000)(w:aeo)(H:af (h8 S w p l))(bH:af (w.heap[bG]?=some (ib b5 (b5-m))))(r:Option (List e3)× Int)(hr:af (IL l v m=r)):
    Calls Tryz.prog 60 #[ad p n c,EJ v,ah bG 0] w (wh bG b5 w r):=by
  have dn:=aq aA;have bd:=aq hn;have b0:=aq aY;have Hy:=aq hS;have w5:=aq hm;have po:=aq (lt_of_heap bH.out);obtain⟨⟨d0,d6⟩,⟨fO,fh⟩,⟨a0,bA⟩,⟨cu,cS⟩,⟨ap1,ap2⟩,⟨ap3,ap4⟩,eF⟩:=EK aY;have qT:=aq eF;have zS:=hr.out;unfold IL at zS;clear aA hn aY hS hm eF;obtain⟨cm,cq,bQ,bM,cB,ch⟩:=v;simp only at d0 d6 fO fh a0 bA cu cS ap1 ap2 ap3 ap4 zS;obtain⟨wn,ap5⟩:∃n,bM.toNat=n:=⟨_,rfl⟩;obtain⟨AJ,adh⟩:∃n,cB.toNat=n:=⟨_,rfl⟩;have Lc:=aq ap5;have adi:=aq adh;rw[adh] at zS;have bw:=aq zS;clear zS;have KT:1≤bM *cB∧bM *cB≤65536:=(by have a7:0≤(bM-1) *cB:=jV (by omega) (by omega);have bf:0≤(256-bM) *cB:=jV (by omega) (by omega);have cM:(bM-1) *cB=bM *cB-cB:=(by grind);have hO:(256-bM) *cB=256 *cB-bM *cB:=(by grind);omega);obtain⟨C,mZ⟩:∃C,bM *cB=C:=⟨_,rfl⟩;rw[mZ] at KT;have axp:ae (bM *cB)=C:=(by rw[mZ];exact cY _ (by omega));have k7:af (C=(C.toNat:Int)):=(by show _=_;omega);have axq:C.toNat≤65536:=(by omega);clear mZ;go_enter Tryz.func60,Tryz.ntmps60;go_wp2_with fail;have xF:af ((w.alloc (uA ⟨cm,cq,bQ,bM,cB,ch⟩)).heap[w.heap.size]?=some (uA ⟨cm,cq,bQ,bM,cB,ch⟩)):=bY _ _;have aI:af (ao w w (w.alloc (uA ⟨cm,cq,bQ,bM,cB,ch⟩))):=a6 _ _;generalize w.alloc (uA ⟨cm,cq,bQ,bM,cB,ch⟩)=W at xF aI⊢;with_reducible refine (PC ⟨cm,cq,bQ,bM,cB,ch⟩ true b0 _).mono ?_
  rintro e b7 ⟨rfl,ax⟩;have adj:=aq (aU xF.out ax);have cC:af (ao w w b7):=aI.out.trans (ax.mono aI.out.size);clear ax xF aI;go_wp2_with fail;with_reducible refine (apf S l dn.out p n c bd.out _ (aq (H.out.below cC.out))).mono ?_
  rintro e b4 ⟨ik,c',jD,fx,rfl,xa,ax⟩;have U6:=aq (aU adj.out ax);have c6:af (ao w w b4):=cC.out.trans (ax.mono cC.out.size);have DC:=aq xa;have axr:=aq ax.size;clear ax xa adj;go_upto_region 4 with fail;obtain⟨G,zb⟩:∃G,og l=G:=⟨_,rfl⟩;have Ik:af (∀e∈G,sD e.o.2):=(by intro e he;rw[←zb] at he;obtain⟨o,bm,wE⟩:=List.mem_filterMap.1 he;obtain⟨b,_,rfl⟩:=Option.map_eq_some_iff.1 wE;exact dn.out o bm);rw[zb] at DC bw⊢;clear zb;have Ld:=aq (aU U6.out (a6 b4 (ai (lp ik G.length c' jD fx) ja)));have dV:af (ao w w (b4.alloc (ai (lp ik G.length c' jD fx) ja))):=c6.out.trans ((a6 _ _).mono c6.out.size);have U7:=aq (DC.out.below (a6 b4 (ai (lp ik G.length c' jD fx) ja)));have Le:af ((b4.alloc (ai (lp ik G.length c' jD fx) ja)).heap[b4.heap.size]?=some (.cells (lp ik G.length c' jD fx) ja)):=bY _ _;have Lf:af (w.heap.size<b4.heap.size):=lt_of_heap U6.out;change Code.wp _ _ _ _ (b4.alloc (ai (lp ik G.length c' jD fx) ja));generalize b4.alloc (.cells (lp ik G.length c' jD fx) ja)=c9 at Ld dV U7 Le⊢;obtain⟨ap6,yQ⟩:∃B,b4.heap.size=B:=⟨_,rfl⟩;rw[yQ] at Le Lf⊢;clear yQ U6 c6 DC;obtain⟨i0,hi,dy,dJ,dv⟩:=info_parts apR;have b8:=aq (And.intro hi (And.intro dy (And.intro dJ dv)));clear hi dy dJ dv;obtain⟨v0,v1,v2,v3,v4,v5⟩:=AF Ld.out;go_upto_region 5 with (first|(refine Oc _ rfl _ _ _ rfl c9.heap.size oO i0 U3 2 Tryz.underlying36 b8.out.1 b8.out.2.1 b8.out.2.2.1 .i64 .i64 C C.toNat (by rfl) (by rfl) k7.out (by rw[b8.out.2.2.2];omega) (by unfold maxLen;omega) (bx _) ?_;intro eK c0 z'));have jE:=PF z';obtain⟨sv0,HA⟩:∃s,Value.slice (some (aj c9.heap.size 0)) 0 C.toNat=s:=⟨_,rfl⟩
  have adk:af (me (uC eK bG sv0) c9 ik jD G):=by
    refine U7.out.mono (fun k ay hs=>⟨km ay jE.size,?_,?_⟩)
    · rcases hs with hs|hs
      · intro e;exact Hy.out (e ▸ hs)
      · have:=po.out;have:=cC.out.size;omega
    · rw[←HA];intro e;simp only[Value.ownBlock,n7] at e;omega
  have ap7:=aq (adk.out.below jE);have PG:=aq (aU Ld.out jE);have ap8:=aq (aU Le.out jE);have Gf:=dV.out.size;have Lg:af (uC eK bG sv0 w.heap.size∧uC eK bG sv0 ap6):=(by have av:=lt_of_heap Ld.out;have az:=lt_of_heap Le.out;have aC:=po.out;have bt:=Lf.out;have cr:=jE.size;refine⟨⟨by omega,by omega,?_⟩,⟨by omega,by omega,?_⟩⟩<;>(rw[←HA];intro e;simp only[Value.ownBlock,n7] at e;omega));have vn:af (nx eK bG sv0 b5 (b5-m) sv0 [] eK):=(by refine⟨aP.refl _ _,⟨c9.heap.size,jE.size,by rw[←HA];exact c0⟩,fun k ay=>.inr ay,aU (aU bH.out dV.out) jE⟩);have qq:af (aP (fun k=>k≠bG) w eK):=aP.dW (dV.out.trans (jE.mono dV.out.size));have xz:af (∀k,sv0.ownBlock=some k→w.heap.size≤k):=(by intro k ay;rw[←HA] at ay;simp only[Value.ownBlock,n7] at ay;omega);rw[HA];clear HA c0 z' jE Gf Ld dV U7 Le adk v0 v1 v2 v3 v4 v5;obtain⟨v0,v1,v2,v3,v4,v5⟩:=AF PG.out;go_wp2_with fail;clear v0 v1 v2 v3 v4 v5
  go_loopw [9,34] (fun Aa i wr=>∃(j:Nat) (sv:ada) (acc:List e3) (m1:Int) (aM:aeo),aM=wr∧j≤AJ∧0≤m1∧m1≤m∧acc.length=j *wn∧sv=Aa∧i=I j∧af (nI ⟨cm,cq,bQ,bM,cB,ch⟩ G (AJ-j) j acc m1=r)∧af (nx eK bG sv0 b5 (b5-m1) sv acc aM)) (fun _ i _=>AJ -(intOf i).toNat)
  case atStart=>exact⟨0,sv0,[],m,_,rfl,dO _,w5.out.1,rv _,by simp,rfl,rfl,bw.out,vn.out⟩
  case round=>
  obtain⟨j,sv,acc,m1,aM,rfl,cd,ac5,apJ,WW,rfl,rfl,cG,c1⟩:=hrel;by_cases bR:j<AJ
  · have Bx:(j:Int)<cB:=by have:=adi.out;omega
    have z8:AJ-j=(AJ -(j+1))+1:=(by omega);obtain⟨⟨ro,ES⟩,eD⟩:∃o,mD ⟨cm,cq,bQ,bM,cB,ch⟩ (gV G (IK ⟨cm,cq,bQ,bM,cB,ch⟩ j)) j wn 0 acc m1=o:=⟨_,rfl⟩;have adl:=aq eD;have hM:af (ro.elim (none,ES) (fun a=>nI ⟨cm,cq,bQ,bM,cB,ch⟩ G (AJ -(j+1)) (j+1) a ES)=r):=(by show _=_;rw[←cG.out,z8];exact (apY ⟨cm,cq,bQ,bM,cB,ch⟩ G _ j acc m1 (by show mD _ _ _ bM.toNat _ _ _=_;rw[Lc.out];exact eD)).symm);obtain⟨⟨s0,s1,s2,nd⟩,U8⟩:∃b,o0 ⟨cm,cq,bQ,bM,cB,ch⟩ 0 j=b:=⟨_,rfl⟩;obtain⟨⟨t0,t1,t2,t3⟩,U9⟩:∃b,o0 ⟨cm,cq,bQ,bM,cB,ch⟩ (wn-1) j=b:=⟨_,rfl⟩;have Eb:af (IK ⟨cm,cq,bQ,bM,cB,ch⟩ j=⟨s0,s1,t2,t3⟩):=(by show _=_;simp only[IK];rw[Lc.out,U8,U9]);have Ay:af (∀Z,Calls Tryz.prog 85 #[EJ ⟨cm,cq,bQ,bM,cB,ch⟩,I 0,I (j:Int)] Z fun e w'=>e=ab (.tuple #[h5 ⟨s0,s1,s2,nd⟩,U true])∧ao Z Z w'):=(fun Z=>by rw[←U8];exact UR ⟨cm,cq,bQ,bM,cB,ch⟩ b0.out 0 j (by show (0:Int)<bM;omega) Bx Z);have oo:bM-1=((wn-1:Nat):Int):=(by have:=Lc.out;omega);have lE:af (∀Z,Calls Tryz.prog 85 #[EJ ⟨cm,cq,bQ,bM,cB,ch⟩,I (bM-1),I (j:Int)] Z fun e w'=>e=ab (.tuple #[h5 ⟨t0,t1,t2,t3⟩,U true])∧ao Z Z w'):=(fun Z=>by rw[←U9,oo];exact UR ⟨cm,cq,bQ,bM,cB,ch⟩ b0.out (wn-1) j (by show ((wn-1:Nat):Int)<bM;omega) Bx Z);have axs:ae (bM-1)=bM-1:=cY _ (by omega);clear eD U8 U9 oo;obtain⟨v0,v1,v2,v3,v4,v5⟩:=AF (c1.out.k.get Lg.out.1 PG.out);go_wp2_with fail;with_reducible refine (Ay.out _).mono ?_
    rintro e Lh ⟨rfl,nV⟩;have jl:=aq nV;clear v0 v1 v2 v3 v4 v5 nV;go_upto_region 9 with fail;have kp:af (ao aM aM (Lh.alloc (cV ⟨s0,s1,s2,nd⟩))):=jl.out.trans ((a6 _ _).mono jl.out.size);have fT:af ((Lh.alloc (cV ⟨s0,s1,s2,nd⟩)).heap[Lh.heap.size]?=some (cV ⟨s0,s1,s2,nd⟩)):=bY _ _;generalize Lh.alloc (cV ⟨s0,s1,s2,nd⟩)=axt at kp fT⊢;obtain⟨PH,adm⟩:∃B,Lh.heap.size=B:=⟨_,rfl⟩;rw[adm] at fT⊢;clear adm jl;obtain⟨v0,v1,v2,v3,v4,v5⟩:=AF (aU (c1.out.k.get Lg.out.1 PG.out) kp.out);go_wp2_with fail;with_reducible refine (lE.out _).mono ?_
    rintro e ET ⟨rfl,vR⟩;have ku:af (ao aM aM ET):=kp.out.trans (vR.mono kp.out.size);have tH:=aq (aU fT.out vR);clear v0 v1 v2 v3 v4 v5 vR kp fT;go_upto_region 10 with fail;have nL:af (ao aM aM (ET.alloc (cV ⟨t0,t1,t2,t3⟩))):=ku.out.trans ((a6 _ _).mono ku.out.size);have Iy:=aq (aU tH.out (a6 ET (cV ⟨t0,t1,t2,t3⟩)));have PI:af ((ET.alloc (cV ⟨t0,t1,t2,t3⟩)).heap[ET.heap.size]?=some (cV ⟨t0,t1,t2,t3⟩)):=bY _ _;generalize ET.alloc (cV ⟨t0,t1,t2,t3⟩)=axu at nL Iy PI⊢;obtain⟨PJ,adn⟩:∃B,ET.heap.size=B:=⟨_,rfl⟩;rw[adn] at PI⊢;clear adn ku tH;obtain⟨f0,f1,f2,f3⟩:=gW Iy.out;obtain⟨g0,g1,g2,g3⟩:=gW PI.out;obtain⟨bJ,bO⟩:=ot (aU (c1.out.k.get Lg.out.2 ap8.out) nL.out);go_wp2_with fail;with_reducible refine (Jf (uC eK bG sv0) G ik jD G.length c' fx ⟨s0,s1,t2,t3⟩ rfl _ (aq ((ap7.out.keep c1.out.k).below nL.out))).mono ?_
    rintro e AK ⟨dI,aJ,cw,d2,rfl,JM,s5⟩;have U':=aq JM;have vK:af (ao aM aM AK):=nL.out.trans (s5.mono nL.out.size);have ap9:=nL.out.size;clear f0 f1 f2 f3 g0 g1 g2 g3 bJ bO Iy PI JM;go_upto_region 11 with fail;obtain⟨mq,PK⟩:∃mq,gV G ⟨s0,s1,t2,t3⟩=mq:=⟨_,rfl⟩;rw[Eb.out,PK] at adl;have gP:af (∀e∈mq,sD e.o.2):=fun e he=>Ik.out e (by rw[←PK] at he;exact (List.mem_filter.1 he).1);rw[PK] at U'⊢;have B2:af (ao aM aM (AK.alloc (ai (lp dI mq.length aJ cw d2) ja))):=vK.out.trans ((a6 _ _).mono vK.out.size);have Li:af ((AK.alloc (ai (lp dI mq.length aJ cw d2) ja)).heap[AK.heap.size]?=some (.cells (lp dI mq.length aJ cw d2) ja)):=bY _ _;have Va:=aq (U'.out.below (a6 AK (ai (lp dI mq.length aJ cw d2) ja)));have ado:aM.heap.size≤AK.heap.size:=vK.out.size;change Code.wp _ _ _ _ (AK.alloc (ai (lp dI mq.length aJ cw d2) ja));generalize AK.alloc (.cells (lp dI mq.length aJ cw d2) ja)=td at B2 Li Va⊢;obtain⟨PL,adp⟩:∃B,AK.heap.size=B:=⟨_,rfl⟩;rw[adp] at Li ado⊢;clear adp U' vK PK;have adq:=aq (c1.out.below B2.out);have adr:=c1.out.inv;have Vb:∀k,sv.ownBlock=some k→k<aM.heap.size:=by obtain⟨B,_,hr⟩:=c1.out.row;exact fun k ay=>(hr.lt k ay).2
    have uv : ∀ k, uC eK bG sv0 k → uC td bG sv k := fun k hs => ⟨km hs.1 (dx c1.out.k.size B2.out.size),hs.2.1,fun e=>by
      rcases adr k e.symm with av|av
      · exact absurd hs.1 (by omega)
      · exact hs.2.2 av.symm⟩
    have axv:=lt_of_heap c1.out.mt
    have Na : af (me (uC td bG sv) td dI cw mq) := Va.out.mono (fun k ay hs=>by
      rcases hs with hs|hs
      · exact uv k hs
      · exact⟨ay,by omega,fun e=>by have:=Vb k e.symm;omega⟩)
    have Lj:af (uC td bG sv w.heap.size∧uC td bG sv PL):=⟨uv _ Lg.out.1,lt_of_heap Li.out,by omega,fun e=>by have:=Vb _ e.symm;omega⟩;have Vc:=aq (aU (c1.out.k.get Lg.out.1 PG.out) B2.out);have aqa:af (nx td bG sv b5 (b5-m1) sv acc td):=⟨aP.refl _ _,adq.out.row,fun k ay=>.inr ay,adq.out.mt⟩;have ads:af (aP (fun k=>k≠bG) aM td):=aP.dW B2.out;clear adr Vb uv ado Va Eb Ay lE ap9 nL;obtain⟨v0,v1,v2,v3,v4,v5⟩:=AF Vc.out;go_wp2_with fail;clear v0 v1 v2 v3 v4 v5;obtain⟨HB,Vd⟩:∃HB,mq.length=HB:=⟨_,rfl⟩;have qs:=aq Vd.symm;rw[Vd] at Li⊢;clear Vd
    go_loopw [9,65] (fun Aa i wr=>∃(x:Nat) (Ae:ada) (qY:List e3) (m2:Int) (cE:aeo),cE=wr∧x≤wn∧0≤m2∧m2≤m1∧qY.length=acc.length+x∧Ae=Aa∧i=I x∧af (mD ⟨cm,cq,bQ,bM,cB,ch⟩ mq j (wn-x) x qY m2=(ro,ES))∧af (nx td bG sv b5 (b5-m2) Ae qY cE)) (fun _ i _=>wn -(intOf i).toNat)
    case atStart=>exact⟨0,sv,acc,m1,_,rfl,dO _,ac5,rv _,rfl,rfl,rfl,adl.out,aqa.out⟩
    case round=>
    obtain⟨x,Ae,qY,m2,cE,rfl,hx,adt,axw,QV,rfl,rfl,adu,aV⟩:=hrel;by_cases axx:x<wn
    · have adv:(x:Int)<bM:=by have:=Lc.out;omega
      have aqb:wn-x=(wn -(x+1))+1:=(by omega);obtain⟨⟨a0,bA,a2,a3⟩,PM⟩:∃b,o0 ⟨cm,cq,bQ,bM,cB,ch⟩ x j=b:=⟨_,rfl⟩;have zM:=apV b0.out (x:=x) (y:=j) adv Bx;have i1:=apT ⟨cm,cq,bQ,bM,cB,ch⟩ x j;rw[PM] at zM i1;obtain⟨yF,yG⟩:∃n,ch.toNat=n:=⟨_,rfl⟩;have um:=apW b0.out;simp only at i1 um;rw[yG] at um;have aqc:=aq zM;have Hx:af ((a2-a0)%2^yF=0∧0<a2-a0):=(by rw[i1.1];exact um);have aqd:af ((a3-bA)%2^yF=0∧0<a3-bA):=(by rw[i1.2];exact um);obtain⟨⟨fV,m6⟩,c4⟩:∃qF,py yF (gV mq ⟨a0,bA,a2,a3⟩) ⟨a0,bA,a2,a3⟩ m2=qF:=⟨_,rfl⟩;have EL:=aq c4;have tC:af (fV.elim (none,m6) (fun c=>mD ⟨cm,cq,bQ,bM,cB,ch⟩ mq j (wn -(x+1)) (x+1) (qY++[c]) m6)=(ro,ES)):=(by show _=_;rw[←adu.out,aqb];exact (apX ⟨cm,cq,bQ,bM,cB,ch⟩ mq j _ x qY m2 (by show py ch.toNat _ _ _=_;rw[PM,yG];exact c4)).symm);obtain⟨oM,K7⟩:∃oM:Int,(if fV.isNone=true then 6 else 0)=oM:=⟨_,rfl⟩;obtain⟨⟨dL,dM⟩,ka⟩:∃c:e3,fV.getD (0,0)=c:=⟨_,rfl⟩;have AH:=aq K7;have ui:=aq ka;have Ve:af (ch=(yF:Int)):=(by show _=_;omega);have aqe:af (∀Z,Calls Tryz.prog 85 #[EJ ⟨cm,cq,bQ,bM,cB,ch⟩,I (x:Int),I (j:Int)] Z fun e w'=>e=ab (.tuple #[h5 ⟨a0,bA,a2,a3⟩,U true])∧ao Z Z w'):=(fun Z=>by rw[←PM];exact UR ⟨cm,cq,bQ,bM,cB,ch⟩ b0.out x j adv Bx Z);clear c4 K7 ka PM zM i1 um yG;obtain⟨v0,v1,v2,v3,v4,v5⟩:=AF (aV.out.k.get Lj.out.1 Vc.out);go_wp2_with fail;with_reducible refine (aqe.out _).mono ?_
      rintro e EU ⟨rfl,Hz⟩;have J4:=aq (aV.out.below Hz);have aqf:=Hz.size;clear v0 v1 v2 v3 v4 v5 Hz;go_upto_region 15 with fail;have tc:=aq (J4.out.below (a6 EU (cV ⟨a0,bA,a2,a3⟩)));have o9:af ((EU.alloc (cV ⟨a0,bA,a2,a3⟩)).heap[EU.heap.size]?=some (cV ⟨a0,bA,a2,a3⟩)):=bY _ _;have aqg:=lt_of_heap J4.out.mt;have Lk:td.heap.size≤(EU.alloc (cV ⟨a0,bA,a2,a3⟩)).heap.size:=tc.out.k.size;change Code.wp _ _ _ _ (EU.alloc (cV ⟨a0,bA,a2,a3⟩));generalize EU.alloc (cV ⟨a0,bA,a2,a3⟩)=cU at tc o9 Lk⊢;obtain⟨mo,K9⟩:∃B,EU.heap.size=B:=⟨_,rfl⟩;rw[K9] at o9 aqg aqf⊢;have yQ:mo≠bG:=(by omega);have vX:w.heap.size≠bG:=Lj.out.1.2.1;have aqh:PL≠bG:=Lj.out.2.2.1;have aqi:=aq (tc.out.k.get Lj.out.1 Vc.out);have vP:=aq (tc.out.k.get Lj.out.2 Li.out);have adw:af (me (fun k=>k≠bG) cU dI cw mq):=(Na.out.keep tc.out.k).mono (fun k _ hs=>hs.2.1);have bC:af (∀Z,aP (fun k=>k≠bG) cU Z→U5 cU bG w.heap.size ch PL dI cw HB aJ d2 mo a0 bA a2 a3 Z):=fun Z ay=>apZ (v:=⟨cm,cq,bQ,bM,cB,ch⟩) aqi.out vP.out o9.out vX aqh yQ ay;have xT:af (aP (fun k=>k≠bG) cU cU.drew):=aP.dW (Below.refl _ _).drew;have kC:af (aP (fun k=>k≠bG) cU (cU.alloc (gf 0 0)).drew):=aP.dW (a6 _ _).drew;have l1:=aq (bC.out _ (aP.refl _ _));have lY:=aq (bC.out _ xT.out);have DN:af (me (fun k=>k≠bG) cU.drew dI cw mq):=adw.out.keep xT.out;have KV:af (me (fun k=>k≠bG) (cU.alloc (gf 0 0)).drew dI cw mq):=adw.out.keep kC.out;have wg:af (cU.drew.heap[bG]?=some (ib b5 (b5-m2))):=tc.out.mt;have vm:af ((cU.alloc (gf 0 0)).drew.heap[bG]?=some (ib b5 (b5-m2))):=aU tc.out.mt (a6 _ _).drew;have aqj:af ((cU.alloc (gf 0 0)).drew.heap[cU.heap.size]?=some (gf 0 0)):=bY _ _;have EM:bG<cU.heap.size:=lt_of_heap tc.out.mt;have y5:af (∀k,(k≠bG∨cU.drew.heap.size≤k)→k≠bG):=fun k h=>h.elim id (fun h=>by have az:cU.heap.size≤k:=h;omega);have rL:af (∀k,(k≠bG∨(cU.alloc (gf 0 0)).drew.heap.size≤k)→k≠bG):=fun k h=>h.elim id (fun h=>by have az:=dx (a6 cU (gf 0 0)).size h;omega);have U1:cU.heap.size≠bG:=(by omega);have PN:∀c,cU.heap.size≤c→∀k,Ae.ownBlock=some k→k≠c:=(by obtain⟨B,_,hr⟩:=tc.out.row;exact fun c hc k ay=>by have:=(hr.lt k ay).2;omega);have K':af (∀(sb j1:Ja) (bU iP:Nat) (Z:aeo),me (fun k=>k≠bG) Z sb j1 (gV mq ⟨a0,bA,a2,a3⟩)→Z.heap[bG]?=some (ib b5 (b5-m2))→Calls Tryz.prog 87 #[.agg (lp sb (gV mq ⟨a0,bA,a2,a3⟩).length bU j1 iP),h5 ⟨a0,bA,a2,a3⟩,I ch,ah bG 0] Z (AG bG b5 Z (fV,m6))):=(by intro sb j1 bU iP Z aF cz;rw[Ve.out];exact apG 7 yF (by have:=Ve.out;omega) (by have:=Ve.out;omega) (fun k=>k≠bG) (gV mq ⟨a0,bA,a2,a3⟩) (fun e he=>gP.out e (List.mem_filter.1 he).1) sb j1 _ bU iP rfl ⟨a0,bA,a2,a3⟩ aqc.out Hx.out aqd.out bG (fun h=>h rfl) b5 m2 (by have:=w5.out;omega) Z (aq aF) (aq cz) (fV,m6) EL);clear K9
      go_region_held3 (fun Z => U5 cU bG w.heap.size ch PL dI cw HB aJ d2 mo a0 bA a2 a3 Z) (first | with_reducible exact l1.out | with_reducible exact lY.out | with_reducible exact bC.out _ kC.out | with_reducible exact bC.out _ (((lx.wb nw.size _).wb nw.size _)) | with_reducible exact bC.out _ (((lx.wb (bx _) _).wb (bx _) _)) | with_reducible exact bC.out _ (lx.trans (aP.alloc _ _ _)) | with_reducible exact bC.out _ lx | with_reducible exact bC.out _ (nw.trans (aP.alloc _ _ _)) | with_reducible exact bC.out _ nw | assumption | (trace_state; fail)) (first
        |(go_at_call 86;with_reducible refine (Jf (fun k=>k≠bG) mq dI cw HB aJ d2 ⟨a0,bA,a2,a3⟩ qs.out cU.drew DN).mono ?_;rintro e eT ⟨sb,bU,j1,iP,rfl,xU,la⟩;have nw:=xT.out.trans (aP.dW la);have EN:=aU wg.out la;have EO:=xU.mono (fun k _ h=>y5.out k h);clear xU)
        |(go_at_call 86;with_reducible refine (Jf (fun k=>k≠bG) mq dI cw HB aJ d2 ⟨a0,bA,a2,a3⟩ qs.out (cU.alloc (gf 0 0)).drew KV).mono ?_;rintro e eT ⟨sb,bU,j1,iP,rfl,xU,la⟩;have nw:=kC.out.trans (aP.dW la);have EN:=aU vm.out la;have EO:=xU.mono (fun k _ h=>rL.out k h);have U2:=aU aqj.out la;clear xU)
        |(go_at_call 87;with_reducible refine (K'.out sb j1 bU iP eT EO EN).mono ?_;intro e e6 fM;obtain⟨EP,AI,xV⟩:=AG.get fM ui.out AH.out;subst EP;have lx:=nw.trans xV;try (have mS:=xV.get U1 U2;obtain⟨z0,z1⟩:=oN mS;have oJ:=cJ mS))
        |(go_at_call 87;with_reducible refine (K'.out sb j1 bU iP (eT.alloc (gf 0 0)) (EO.below (a6 _ _)) (aU EN (a6 _ _))).mono ?_;intro e e6 fM;obtain⟨EP,AI,xV⟩:=AG.get fM ui.out AH.out;subst EP;have lx:=(nw.trans (aP.alloc _ _ _)).trans xV;have mS:=xV.get (acY nw.size EM) (bY eT (gf 0 0));obtain⟨z0,z1⟩:=oN mS;have oJ:=cJ mS))
      all_goals
        first
          | (change Exit.then _ _ _ _ (e6.alloc (gf dL dM))
             have pK:=aq ((tc.out.step lx AI).below (a6 e6 (gf dL dM)));have kl:af ((e6.alloc (gf dL dM)).heap[e6.heap.size]?=some (gf dL dM)):=bY _ _;generalize e6.alloc (gf dL dM)=hX at pK kl⊢;obtain⟨La,qb⟩:∃B,e6.heap.size=B:=⟨_,rfl⟩;rw[qb] at kl⊢;clear qb)
          | (change Exit.then _ _ _ _ ((e6.setCell (aj eT.heap.size 0) (I dL)).setCell (aj eT.heap.size 1) (I dM))
             have pK:=aq (((tc.out.step lx AI).put (hWIs:=Lk) (c:=eT.heap.size) (i:=0) (hc:=nw.size) mS EM (PN _ nw.size) (I dL)).put (hWIs:=Lk) (c:=eT.heap.size) (i:=1) (hc:=nw.size) (dt _ mS) EM (PN _ nw.size) (I dM));have kl:af (((e6.setCell (aj eT.heap.size 0) (I dL)).setCell (aj eT.heap.size 1) (I dM)).heap[eT.heap.size]?=some (gf dL dM)):=oh [I dL,I dM] mS rfl;generalize (e6.setCell (aj eT.heap.size 0) (I dL)).setCell (aj eT.heap.size 1) (I dM)=hX at pK kl⊢;clear z0 z1 oJ mS;obtain⟨La,qb⟩:∃B,eT.heap.size=B:=⟨_,rfl⟩;rw[qb] at kl⊢;clear qb)
          | (change Exit.then _ _ _ _ ((e6.setCell (aj cU.heap.size 0) (I dL)).setCell (aj cU.heap.size 1) (I dM))
             have pK:=aq (((tc.out.step lx AI).put (hWIs:=Lk) (c:=cU.heap.size) (i:=0) (hc:=bx _) mS EM (PN _ (bx _)) (I dL)).put (hWIs:=Lk) (c:=cU.heap.size) (i:=1) (hc:=bx _) (dt _ mS) EM (PN _ (bx _)) (I dM));have kl:af (((e6.setCell (aj cU.heap.size 0) (I dL)).setCell (aj cU.heap.size 1) (I dM)).heap[cU.heap.size]?=some (gf dL dM)):=oh [I dL,I dM] mS rfl;generalize (e6.setCell (aj cU.heap.size 0) (I dL)).setCell (aj cU.heap.size 1) (I dM)=hX at pK kl⊢;clear z0 z1 oJ mS;obtain⟨La,qb⟩:∃B,cU.heap.size=B:=⟨_,rfl⟩;rw[qb] at kl⊢;clear qb)
      all_goals
        obtain⟨v0,v1⟩:=oN kl.out;cases fV with
        |none=>
          obtain rfl:(6:Int)=oM:=AH.out;obtain⟨rfl,rfl⟩:none=ro∧m6=ES:=(by have:=tC.out;simpa using this);have dr:af (r=(none,m6)):=hM.out.symm;have Hd:=aq (c1.out.back ads.out pK.out);go_wp2_with fail;go_ret2;rw[dr.out];exact⟨Hd.out.mt,Hd.out.outer qq.out xz.out,rfl⟩
        |some jW=>
          obtain rfl:(0:Int)=oM:=AH.out;obtain rfl:(dL,dM)=jW:=ui.out.symm;have dr:af (mD ⟨cm,cq,bQ,bM,cB,ch⟩ mq j (wn -(x+1)) (x+1) (qY++[(dL,dM)]) m6=(ro,ES)):=tC.out;obtain⟨_,adb,ade⟩:=PB _ _ _ _ _ _ EL.out;obtain⟨Vf,aqk,AL⟩:=pK.out.row;obtain⟨adx,ady,rfl⟩:=jH AL;obtain⟨Vg,yi⟩:∃n,qY.length=n:=⟨_,rfl⟩;have aql:Vg≤1000000:=(by have av:j *wn≤256 *256:=Nat.mul_le_mul (by have:=adi.out;omega) (by have:=Lc.out;omega);omega);have DQ:=aq yi;have Ey:=aq (pK.out.below (a6 hX (ai (#[I dL,I dM]) oO)));have F4:af ((hX.alloc (ai (#[I dL,I dM]) oO)).ownsRow Vf oO 2 (ad adx qY.length ady) qY.length (iV qY)):=AL.alloc _;have Vh:Vf≤(hX.alloc (ai (#[I dL,I dM]) oO)).heap.size:=dx aqk (a6 _ _).size;rw[yi] at Ey F4⊢;clear yi AL;go_wp2_with (at_builtin;refine yI _ rfl _ _ _ rfl Vf oO i0 U3 2 16 Tryz.underlying36 b8.out.1 b8.out.2.1 b8.out.2.2.1 b8.out.2.2.2 rfl (by omega) (ad adx Vg ady) Vg _ (by rfl) F4.out (aj hX.heap.size 0) 1 1 [I dL,I dM] (by rfl) (by rfl) (j8 (cs:= #[I dL,I dM]) (t:=oO) (fr:=(0,0)) (fJ hX _)) (by simp[Value.oneCell']) (by omega) (by unfold maxLen;omega) (by omega) Vh (hX.heap.size+1) (by simp) ?_;intro ge Ji bI c0 ep eX iR);have NK:=aq (Ey.out.push (c:=(dL,dM)) (g':=ge) (c':=Ji) F4.out ep (by rw[DQ.out];exact c0) Vh (eX.imp id (fun h=>by rw[h];simp)) (by rw[DQ.out]));clear c0 ep eX iR;have hlen:(qY++[(dL,dM)]).length=acc.length+(x+1):=(by rw[iv];simp only[fY,tj];omega);have aqm:m6≤m1:=(by omega);have nV:x+1≤wn:=(by omega);clear ade aql Vh QV;go_round<;>first|exact⟨x+1,_,qY++[(dL,dM)],m6,_,rfl,nV,adb,aqm,hlen,rfl,by go_num,dr.out,NK.out⟩|(simp[intOf]<;>omega)
    · have aqn:x=wn:=by omega
      subst aqn;obtain⟨rfl,rfl⟩:some qY=ro∧m2=ES:=(by have:=adu.out;rw[SW] at this;simpa[mD] using this);have Hd:=aq (c1.out.back ads.out aV.out);have dr:af (nI ⟨cm,cq,bQ,bM,cB,ch⟩ G (AJ -(j+1)) (j+1) qY m2=r):=hM.out;go_wp2_with fail;go_round<;>first|exact⟨j+1,_,qY,m2,_,rfl,by omega,by omega,by omega,by rw[QV,WW,Nat.add_mul,Nat.one_mul],rfl,by go_num,dr.out,Hd.out⟩|(simp[intOf]<;>omega)
  · have iH:j=AJ:=by omega
    subst iH;have dr:af (r=(some acc,m1)):=(by show _=_;rw[←cG.out,SW];rfl);go_wp2_with fail;go_ret2;rw[dr.out];obtain⟨B,_,hr⟩:=c1.out.row;refine⟨c1.out.mt,c1.out.outer qq.out xz.out,_,rfl,B,hr,fun k ay=>?_⟩;rcases c1.out.inv k ay with av|av
    · exact dx qq.out.size av
    · exact xz.out k av
def iW(c:Int):Bool:=decide (0≤c)&&decide (c≤255)
theorem EV(c:Int)(f:Bool)(hf:af (iW c=f))(w:aeo):Calls Tryz.prog 59 #[I c] w fun e w'=>e=ab (U f)∧w'=w:=by
 go_enter Tryz.func59,Tryz.ntmps59;go_wp2_with fail
 all_goals
  go_ret;refine⟨dD (Bp ⟨fun h=>?_,fun h=>?_⟩ hf.out),rfl⟩<;>simp only[iW,jh,jR,wL] at h⊢<;>omega
structure ly where
 t:ByteArray
 r:Int
 g:Int
 b:Int
 al:Int
 te:Bool
abbrev c8:TypeId:=35
abbrev Vi(l:ly):List Value:=[aa l.t,I l.r,I l.g,I l.b,I l.al,U l.te]
def nY(S:afp)(w:aeo)(p:Ja)(l:List ly):Prop:=l.length≤n9∧(0<l.length→∃(k o:Nat) (cs:ajv),p=some ⟨k,o,none⟩∧S k∧an w k cs c8∧∀i (hi:i<l.length),(cs.toList.drop (o+i *6)).take 6=Vi l[i])
theorem nY.keep{S:afp}{p:Ja}{l:List ly}(h:nY S w p l)(ay:aP S w w'):nY S w' p l:=by refine⟨h.1,fun aA=>?_⟩;obtain⟨k,o,cs,e,hS,aK,hp⟩:=h.2 aA;exact⟨k,o,cs,e,hS,ay.get hS aK,hp⟩
theorem nY.below{S:afp}{p:Ja}{l:List ly}(h:nY S w p l)(ax:ao w w w'):nY S w' p l:=h.keep (.dW ax)
theorem nY.at{S:afp}{w:aeo}{p:Ja}{l:List ly}(h:nY S w p l){i:Nat}(hi:i<l.length){y:ly}(he:l[i]=y):
  ∃k o,p=some ⟨k,o,none⟩∧ak w k (o+i *6) (aa y.t)∧ak w k (o+i *6+1) (I y.r)∧ak w k (o+i *6+2) (I y.g)∧ak w k (o+i *6+3) (I y.b)∧ak w k (o+i *6+4) (I y.al)∧ak w k (o+i *6+5) (U y.te):=by
 obtain⟨k,o,cs,rfl,_,aK,hp⟩:=h.2 (by omega);have av:=hp i hi;rw[he] at av;have key:∀j,j<6→cs[o+i *6+j]?=(Vi y)[j]?:=by intro j cd;rw[←av,sg,bb cd,yg];simp
 have bJ:=key 0 (by decide);simp only[IE] at bJ;exact⟨k,o,rfl,cell_of aK bJ,cell_of aK (key 1 (by decide)),cell_of aK (key 2 (by decide)),cell_of aK (key 3 (by decide)),cell_of aK (key 4 (by decide)),cell_of aK (key 5 (by decide))⟩
abbrev iX:TypeId:=32
theorem pd{k:Nat}{v0 v1 v2 v3 v4 v5 v6 cj cD v9 v10 v11 v12:ada}{t:aai}(h:an w k (#[v0,v1,v2,v3,v4,v5,v6,cj,cD,v9,v10,v11,v12]) t):
  ak w k 0 v0∧ak w k 1 v1∧ak w k 2 v2∧ak w k 3 v3∧ak w k 4 v4∧ak w k 5 v5∧ak w k 6 v6∧ak w k 7 cj∧ak w k 8 cD∧ak w k 9 v9∧ak w k 10 v10∧ak w k 11 v11∧ak w k 12 v12:=by
 refine⟨?_,?_,?_,?_,?_,?_,?_,?_,?_,?_,?_,?_,?_⟩<;>simp[World.cell?,h]
end dd
