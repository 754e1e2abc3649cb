/- Lemmas. -/
import Derived.Test.YtkaiaijcieaofaaGreatDoorQ27
import Derived.Lib.ConvBytes
import Derived.Deep.DrawnRows
set_option linter.all false
set_option maxRecDepth 100000
set_option maxHeartbeats 25600000
namespace Go.Proofs.YtkaiaijcieaofaaGreatDoor
abbrev ID:=@Proofs.Tryz.func180
abbrev IE:=@Proofs.Tryz.ntmps180
abbrev pb:=@Proofs.Tryz.func181
abbrev pc:=@Proofs.Tryz.ntmps181
abbrev zO:=@List.mem_cons_of_mem
abbrev adh:=@World.cell?_setCell_other
namespace gK
open Go.RowKit gI ga jz Mem hL cB
def aoY(res:Except Nat C)(w:aeo)(e:Ending)(w':aeo):Prop:=Below w.heap.size w w'∧match res with
 |.ok c=>∃p k,e=ab (.tuple #[iO c 0 (ad p c.bX.length k) cA,I 0])∧dd w.heap.size w' p c.bX∧c.blocks=[]
 |.error n=>e=ab (.tuple #[iO cB.aV 0 cA cA,I (n:Int)])
structure zP(w:aeo)(b:Nat)(c:C)(p:Ja)(k:Nat)(W:aeo):Prop where
 gt:w.heap.size<b
 r:W.heap[w.heap.size]?=some AX
 ix:W.heap[b]?=some (tS c 0 (ad p c.bX.length k) cA)
 bX:dd w.heap.size W p c.bX
 aM:an w w W
theorem zP.below{w W jN:aeo}{b:Nat}{c:C}{p:Ja}{k:Nat}(h:zP w b c p k W)(ay:an W W jN):zP w b c p k jN:=
 ⟨h.gt,ba h.r ay,ba h.ix ay,h.bX.below ay,h.aM.trans (ay.mono h.aM.size)⟩
theorem zP.set{w W:aeo}{b:Nat}{c d:C}{p q:Ja}{k m:Nat}(h:zP w b c p k W)(hn:dd w.heap.size W q d.bX):zP w b d q m (sA W b d 0 (ad q d.bX.length m) cA):=by
 refine⟨h.gt,(T3 W (by have:=h.gt;omega) _ _ _ _).trans h.r,?_,VK hn h.ix (by decide) _ _ _ _,?_⟩
 ·exact (aaC (aaB (Kv (Ku (Kt (Ks (Kr (Kq (Kp (Ko (Kn (Hl h.ix _) _) _) _) _) _) _) _) _) _) _) _)
 ·have hw:=k5 h.gt;unfold sA;exact ((((((((((((h.aM.setCell hw _).setCell hw _).setCell hw _).setCell hw _).setCell hw _).setCell hw _).setCell hw _).setCell hw _).setCell hw _).setCell hw _).setCell hw _).setCell hw _)
theorem aoZ{w W:aeo}(h:kt w W){c:C}{p:Ja}{k:Nat}(hn:dd w.heap.size W p c.bX):zP w W.heap.size c p k (W.alloc (tS c 0 (ad p c.bX.length k) cA)):=
 ⟨(Array.getElem?_eq_some_iff.1 h.a).1,ba h.a ((Below.refl _ _).alloc (aP _) _),dL W _,hn.below ((Below.refl _ _).alloc (aP _) _),h.b.alloc h.b.size _⟩
variable{t:ar}
theorem ao0(au:t.take 2≠[76,83])(ax:w9.lookup t=none):te t=match xa t with
  |none=>.error 3
  |some c=>.ok c:=by
 unfold te;rw[aN au,ax];rfl
theorem ao1{d:C}(au:t.take 2≠[76,83])(ax:w9.lookup t=some d):te t=.ok d:=by unfold te;rw[aN au,ax]
def ao2:Option C→ar→Except Nat C
 |some d,_=>.ok d
 |none,t=>(match xa t with|none=>.error 3|some c=>.ok c)
def Ml:Option C→Except Nat C
 |none=>.error 3
 |some c=>.ok c
theorem ao3(S:Ua)(hs:S.size≤1000000000)(res:Except Nat C)(hr:af (te S.data.toList=res))(w:aeo):
  Calls Tryz.prog 73 #[aa S] w (aoY res w):=by
 have bH:=ao hs;have az:=hr.out;clear hr hs;have aU:af (kt w (w.alloc (ai (#[I 0,I 0,I 0,I 0,U false,aa ⟨#[]⟩,aa ⟨#[]⟩,aa ⟨#[]⟩,aa ⟨#[]⟩,aa ⟨#[]⟩,J 0,J 0]) 92))):=va w;go_enter Tryz.func73,Tryz.ntmps73;go_upto_region 1 with fail;generalize w.alloc (.cells #[I 0,I 0,I 0,I 0,U false,aa ⟨#[]⟩,aa ⟨#[]⟩,aa ⟨#[]⟩,aa ⟨#[]⟩,aa ⟨#[]⟩,J 0,J 0] 92)=W at aU⊢;by_cases FW:S.data.toList.take 2=[76,83]
 ·have bn:af (Except.error 8=res):=(by show _=_;rw[←az];unfold te;rw[aW FW]);have bw:af (decide (S.data.toList.take (⟨#[76,83]⟩:Ua).data.toList.length=(⟨#[76,83]⟩:Ua).data.toList)=true):=gx FW;clear az FW;go_wp2_with fail;with_reducible refine (xX _ _ _ bw _).mono ?_
  rintro e bt ⟨rfl,rfl⟩;obtain⟨⟨aV,aT,c2,c3,cD,c5,cX,c7,dj,bB,di,dE⟩,f0,f1,f2,f3,f4,f5,f6,f7,f8,f9,f10,f11⟩:=fc aU.out.a;go_wp2_with fail;exact E7 (W:=W) cB.aV cA rfl (.inl rfl) rfl rfl aU.out.a aU.out.b fun h=>by rw[←bn.out];exact⟨h,rfl⟩
 ·have bw:af (decide (S.data.toList.take (⟨#[76,83]⟩:Ua).data.toList.length=(⟨#[76,83]⟩:Ua).data.toList)=false):=fJ FW;obtain⟨ek,jv⟩:=aq (w9.lookup S.data.toList);have xj:=ao jv;go_wp2_with fail;with_reducible refine (xX _ _ _ bw _).mono ?_
  rintro e bt ⟨rfl,rfl⟩;go_wp2_with fail;with_reducible refine (aoE S ek xj _).mono ?_
  rintro e db ⟨ay,c,p,k,rfl,hn,mc,hd⟩;have Mh:=ao (aU.out.below ay);have wI:=ao (hn.mono aU.out.b.size);clear ay hn;have cc:af (zP w db.heap.size c p k (db.alloc (tS c 0 (ad p c.bX.length k) cA))):=aoZ Mh.out wI.out;unfold iO iN;unfold tS iN at cc;generalize qk:db.heap.size=vy at cc;have IF:=ao mc;have b9:=ao hd
  have ei:af (ao2 ek S.data.toList=res):=by
   show _=_;rw[←az];cases ek with
   |some d=>exact (ao1 FW jv).symm
   |none=>rw[ao0 FW jv];rfl
  clear az FW jv hd mc aU Mh;go_upto_region 4 with fail;generalize db.alloc _=fU at cc⊢;clear qk wI;go_cut [21] (fun v cq=>v=U (!ek.isSome&&decide (2≤S.size))∧fU=cq)
  case first=>
   cases ek with
   |some d=>
    go_wp2_with fail;go_meet;exact⟨rfl,rfl⟩
   |none=>
    by_cases ax:2≤S.size
    ·have Qh:(2:Int)≤(S.size:Int):=(by omega);have aA:decide (2≤S.size)=true:=gx ax;clear ax;go_wp2_with fail;go_meet;exact⟨by rw[aA];rfl,rfl⟩
    ·have Qh:¬(2:Int)≤(S.size:Int):=(by omega);have aA:decide (2≤S.size)=false:=fJ ax;clear ax;go_wp2_with fail;go_meet;exact⟨by rw[aA];rfl,rfl⟩
  case rest=>
  obtain⟨rfl,rfl⟩:=hcut;go_upto_if 21 with fail;go_cut [5] (fun v cq=>∃(o:Option C) (c:C) (p:Ja) (k:Nat),v=U o.isSome∧af (Ml o=res)∧af ((∀d,o=some d→d=c)∧c.blocks=[])∧af (zP w vy c p k cq))
  case first=>
   cases ek with
   |some d=>
    rw[show (!(some d:Option C).isSome&&decide (2≤S.size))=false from rfl];go_wp2_with fail;go_meet;exact⟨some d,c,p,k,rfl,ei.out,⟨b9.out,IF.out⟩,cc.out⟩
   |none=>
    by_cases ax:2≤S.size
    case neg=>
     have aA:decide (2≤S.size)=false:=fJ ax;have bn:af (Ml none=res):=(by show _=_;rw[←ei.out];show Ml none=Ml (xa S.data.toList);have aE:∀a b:UInt8,S.data.toList.take 2≠[a,b]:=(fun a b h=>by have aA:=fS List.length h;rw[lz,ch] at aA;simp at aA;omega);unfold xa;rw[aN (aE _ _),aN (aE _ _),aN (aE _ _),aN (aE _ _),aN (aE _ _),aN (by rintro (h|h|h|h)<;>exact aE _ _ h)]);clear ax;rw[show (!(none:Option C).isSome&&decide (2≤S.size))=decide (2≤S.size) from rfl,aA];go_wp2_with fail;go_meet;exact⟨none,c,p,k,rfl,bn.out,⟨nofun,IF.out⟩,cc.out⟩
    have Qh:(2:Int)≤(S.size:Int):=(by omega);have aA:decide (2≤S.size)=true:=gx ax;have Yr:∀l,((S.extract 0 2).toList==l)=decide (S.data.toList.take 2=l):=(fun l=>by rw[hZ,show (S.extract 0 2).data.toList=S.data.toList.take 2 from CC S 2]);have q4:af ((S.extract 2 S.size).size≤1000000000):=(by show _≤_;rw[←ch,lX,e8,ch];have:=bH.out;omega);have b2:S.data.toList.drop 2=(S.extract 2 S.size).data.toList:=(lX S 2).symm;have az:=ei.out;change Ml (xa _)=res at az;unfold xa at az;clear ax ei b9;rw[show (!(none:Option C).isSome&&decide (2≤S.size))=decide (2≤S.size) from rfl,aA];by_cases q:S.data.toList.take 2=[70,83]
    ·rw[aW q,b2] at az;obtain⟨bV,h'⟩:=aq (Gs (S.extract 2 S.size).data.toList);have ju:=ao h';rw[h'] at az;have bn:=ao az;obtain⟨⟨d0,d1,d2,d3,d4,d5,d6,d7,d8,d9,d10,d11⟩,g0,g1,g2,g3,g4,g5,g6,g7,g8,g9,g10,g11⟩:=fc cc.out.ix;clear h' az;go_wp2_with fail;with_reducible refine (aoM (S.extract 2 S.size) q4.out bV ju _).mono ?_
     rintro e br ⟨ay,c2,df,bM,rfl,h3,yl,hE⟩;have nw:=ao (cc.out.below ay);have yj:=ao (h3.mono cc.out.aM.size);have qP:=ao (And.intro hE yl);clear ay h3 d0 d1 d2 d3 d4 d5 d6 d7 d8 d9 d10 d11 g0 g1 g2 g3 g4 g5 g6 g7 g8 g9 g10 g11 cc hE yl;obtain⟨⟨d0,d1,d2,d3,d4,d5,d6,d7,d8,d9,d10,d11⟩,g0,g1,g2,g3,g4,g5,g6,g7,g8,g9,g10,g11⟩:=fc nw.out.ix;unfold iO iN;go_wp2_with fail;go_meet;exact⟨bV,c2,df,bM,rfl,bn.out,qP.out,nw.out.set yj.out⟩
    rw[aN q] at az;have awn:=q;clear q;by_cases q:S.data.toList.take 2=[65,68]
    ·rw[aW q,b2] at az;obtain⟨bV,h'⟩:=aq (mn (S.extract 2 S.size).data.toList);have ju:=ao h';rw[h'] at az;have bn:=ao az;obtain⟨⟨d0,d1,d2,d3,d4,d5,d6,d7,d8,d9,d10,d11⟩,g0,g1,g2,g3,g4,g5,g6,g7,g8,g9,g10,g11⟩:=fc cc.out.ix;clear h' az;go_wp2_with fail;with_reducible refine (aoX (S.extract 2 S.size) q4.out bV ju _).mono ?_
     rintro e br ⟨ay,c2,df,bM,rfl,h3,yl,hE⟩;have nw:=ao (cc.out.below ay);have yj:=ao (h3.mono cc.out.aM.size);have qP:=ao (And.intro hE yl);clear ay h3 d0 d1 d2 d3 d4 d5 d6 d7 d8 d9 d10 d11 g0 g1 g2 g3 g4 g5 g6 g7 g8 g9 g10 g11 cc hE yl;obtain⟨⟨d0,d1,d2,d3,d4,d5,d6,d7,d8,d9,d10,d11⟩,g0,g1,g2,g3,g4,g5,g6,g7,g8,g9,g10,g11⟩:=fc nw.out.ix;unfold iO iN;go_wp2_with fail;go_meet;exact⟨bV,c2,df,bM,rfl,bn.out,qP.out,nw.out.set yj.out⟩
    rw[aN q] at az;have awo:=q;clear q;by_cases q:S.data.toList.take 2=[65,66]
    ·rw[aW q,b2] at az;obtain⟨bV,h'⟩:=aq (Gt (S.extract 2 S.size).data.toList);have ju:=ao h';rw[h'] at az;have bn:=ao az;obtain⟨⟨d0,d1,d2,d3,d4,d5,d6,d7,d8,d9,d10,d11⟩,g0,g1,g2,g3,g4,g5,g6,g7,g8,g9,g10,g11⟩:=fc cc.out.ix;clear h' az;go_wp2_with fail;with_reducible refine (aoF (S.extract 2 S.size) q4.out bV ju _).mono ?_
     rintro e br ⟨ay,c2,df,bM,rfl,h3,yl,hE⟩;have nw:=ao (cc.out.below ay);have yj:=ao (h3.mono cc.out.aM.size);have qP:=ao (And.intro hE yl);clear ay h3 d0 d1 d2 d3 d4 d5 d6 d7 d8 d9 d10 d11 g0 g1 g2 g3 g4 g5 g6 g7 g8 g9 g10 g11 cc hE yl;obtain⟨⟨d0,d1,d2,d3,d4,d5,d6,d7,d8,d9,d10,d11⟩,g0,g1,g2,g3,g4,g5,g6,g7,g8,g9,g10,g11⟩:=fc nw.out.ix;unfold iO iN;go_wp2_with fail;go_meet;exact⟨bV,c2,df,bM,rfl,bn.out,qP.out,nw.out.set yj.out⟩
    rw[aN q] at az;have awp:=q;clear q;by_cases q:S.data.toList.take 2=[83,82]
    ·rw[aW q,b2] at az;obtain⟨bV,h'⟩:=aq (cB.stepG (S.extract 2 S.size).data.toList);have ju:=ao h';rw[h'] at az;have bn:=ao az;obtain⟨⟨d0,d1,d2,d3,d4,d5,d6,d7,d8,d9,d10,d11⟩,g0,g1,g2,g3,g4,g5,g6,g7,g8,g9,g10,g11⟩:=fc cc.out.ix;clear h' az;go_wp2_with fail;with_reducible refine (aoL (S.extract 2 S.size) q4.out bV ju _).mono ?_
     rintro e br ⟨ay,c2,df,bM,rfl,h3,yl,hE⟩;have nw:=ao (cc.out.below ay);have yj:=ao (h3.mono cc.out.aM.size);have qP:=ao (And.intro hE yl);clear ay h3 d0 d1 d2 d3 d4 d5 d6 d7 d8 d9 d10 d11 g0 g1 g2 g3 g4 g5 g6 g7 g8 g9 g10 g11 cc hE yl;obtain⟨⟨d0,d1,d2,d3,d4,d5,d6,d7,d8,d9,d10,d11⟩,g0,g1,g2,g3,g4,g5,g6,g7,g8,g9,g10,g11⟩:=fc nw.out.ix;unfold iO iN;go_wp2_with fail;go_meet;exact⟨bV,c2,df,bM,rfl,bn.out,qP.out,nw.out.set yj.out⟩
    rw[aN q] at az;have awq:=q;clear q;by_cases q:S.data.toList.take 2=[76,82]
    ·rw[aW q,b2] at az;unfold ND at az;obtain⟨bV,h'⟩:=aq (dec (S.extract 2 S.size).data.toList);have ju:af ((dec (S.extract 2 S.size).data.toList).getD 0=bV.getD 0∧(dec (S.extract 2 S.size).data.toList).isSome=bV.isSome):=(by show _∧_;rw[h'];exact⟨rfl,rfl⟩);rw[h'] at az;have bn:=ao az;clear h' az;go_wp2_with fail;with_reducible refine (O4 (S.extract 2 S.size) _ _ ju (cd q4.out (by decide)) _).mono ?_
     rintro e br ⟨rfl,rfl⟩;obtain⟨v,aS⟩:=aq (bV.getD 0);have cM:=ao aS;rw[aS];have bd:af (dd w.heap.size (fU.alloc (ai (#[I v]) 2)) (some (aj fU.heap.size 0)) [v]):=(by intro _;refine⟨fU.heap.size,0,_,rfl,cc.out.aM.size,dL fU _,fun i hi=>?_⟩;have aA:i=0:=(by simp at hi;omega);subst aA;rfl);have nw:af (zP w vy c p k (fU.alloc (ai (#[I v]) 2))):=cc.out.below ((Below.refl _ _).alloc (aP _) _);have VO:=ao (nw.out.set (d:=({dD 17 with bX:=[v]}:C)) (m:=1) bd.out);clear cc aS;obtain⟨⟨d0,d1,d2,d3,d4,d5,d6,d7,d8,d9,d10,d11⟩,g0,g1,g2,g3,g4,g5,g6,g7,g8,g9,g10,g11⟩:=fc nw.out.ix;go_wp2_with fail;go_meet;refine⟨bV.map fun v=>{dD 17 with bX:=[v]},{dD 17 with bX:=[v]},some ⟨fU.heap.size,0,none⟩,1,by cases bV<;>rfl,?_,⟨fun d h=>?_,rfl⟩,VO.out⟩
     ·rw[←bn.out];cases bV<;>rfl
     ·cases bV with
      |none=>cases h
      |some v2=>
       obtain rfl:v2=v:=cM.out;exact (wi h).symm
    rw[aN q] at az;have awr:=q;clear q;by_cases q:S.data.toList.take 2=[84,70]∨S.data.toList.take 2=[84,65]∨S.data.toList.take 2=[84,79]∨S.data.toList.take 2=[84,68]
    ·rw[aW q] at az;have bn:=ao az;have VO:=ao (cc.out.set (d:=({dD 18 with t:=S.data.toList}:C)) (q:=none) (m:=0) (dd.nil _ _ _));obtain⟨⟨d0,d1,d2,d3,d4,d5,d6,d7,d8,d9,d10,d11⟩,g0,g1,g2,g3,g4,g5,g6,g7,g8,g9,g10,g11⟩:=fc cc.out.ix;clear az;rcases q with q|q|q|q
     all_goals
      go_wp2_with fail;go_meet;exact⟨some {dD 18 with t:=S.data.toList},{dD 18 with t:=S.data.toList},none,0,rfl,bn.out,⟨fun d h=>(wi h).symm,rfl⟩,VO.out⟩
    ·rw[aN q] at az;have bn:=ao az;clear az;have bI:=fun h=>q (.inl h);have bJ:=fun h=>q (.inr (.inl h));have dT:=fun h=>q (.inr (.inr (.inl h)));have hz:=fun h=>q (.inr (.inr (.inr h)));go_wp2_with fail;go_meet;exact⟨none,c,p,k,rfl,bn.out,⟨nofun,IF.out⟩,cc.out⟩
  case rest=>
  obtain⟨o,c2,df,bM,rfl,bn,lC,cc⟩:=hcut;obtain⟨⟨aV,aT,c2,c3,cD,c5,cX,c7,dj,bB,di,dE⟩,f0,f1,f2,f3,f4,f5,f6,f7,f8,f9,f10,f11⟩:=fc cc.out.r;cases o with
  |none=>
   go_wp2_with fail;exact E7 (W:=wc) cB.aV cA rfl (.inl rfl) rfl rfl cc.out.r cc.out.aM fun h=>by rw[←bn.out];exact⟨h,rfl⟩
  |some d=>
   obtain rfl:=lC.out.1 d rfl;have ao4:=ao lC.out.2;clear lC;obtain⟨⟨d0,d1,d2,d3,d4,d5,d6,d7,d8,d9,d10,d11⟩,g0,g1,g2,g3,g4,g5,g6,g7,g8,g9,g10,g11⟩:=fc cc.out.ix;have jJ:=ao (VK cc.out.bX cc.out.r (by decide) d 0 (ad df d.bX.length bM) cA);go_wp2_with fail;exact E7 (W:=wc) d (ad df d.bX.length bM) rfl (.inl rfl) rfl rfl cc.out.r cc.out.aM fun h=>by rw[←bn.out];exact⟨h,df,bM,rfl,jJ.out,ao4.out⟩
def Mm:Option (ByteArray×ByteArray)→Ending→Prop
 |none,e=>e=ab (.tuple #[aa ⟨#[]⟩,aa ⟨#[]⟩,U false])
 |some x,e=>e=ab (.tuple #[aa x.1,aa x.2,U true])
theorem adi(s:ar):∃o:Option (ByteArray×ByteArray),vM s=o.map fun x=>(x.1.data.toList,x.2.data.toList):=by
 unfold vM;split
 ·exact⟨none,rfl⟩
 ·exact⟨some (⟨(s.take (bK s)).toArray⟩,⟨(s.drop (bK s)).toArray⟩),rfl⟩
theorem CI(S:Ua)(hs:S.size≤1000000000)(o:Option (ByteArray×ByteArray))(a1:af (vM S.data.toList=o.map fun x=>(x.1.data.toList,x.2.data.toList)))(w:aeo):
  Calls Tryz.prog 177 #[aa S] w fun e w'=>Mm o e∧xJ w w':=by
 have az:=a1.out;unfold vM at az;obtain⟨n,hn⟩:=aq (bK S.data.toList);have oy:=ao hn
 have xj:af (n=0→o=none):=by
  intro h;rw[aW (.inl (by rw[hn];exact h))] at az;cases o with
  |none=>rfl
  |some x=>cases az
 have ju:af (∀h:0<S.size,S[0]=48→o=none):=by
  intro hp h;rw[aW (.inr (by rw[AF S hp];exact h))] at az;cases o with
  |none=>rfl
  |some x=>cases az
 have nM:af (n≠0→∀h:0<S.size,S[0]≠48→o=some (S.extract 0 n,S.extract n S.size)):=by
  intro aF hp h;rw[aN (by rintro (au|au);exact aF (by rw[←hn];exact au);exact h (by rw[AF S hp] at au;exact au))] at az;cases o with
  |none=>cases az
  |some x=>
   obtain⟨a,b⟩:=x;have ax:=wi az;simp only[fg] at ax;have ha:a=S.extract 0 n:=lD (by rw[CC,←hn];exact ax.1.symm);have ay:b=S.extract n S.size:=lD (by rw[lX,←hn];exact ax.2.symm);rw[ha,ay]
 clear az hn a1;go_enter Tryz.func177,Tryz.ntmps177;go_wp2_with fail
 go_loop [5] (fun i=>∃k:Nat,af (k≤bK S.data.toList)∧i=I (k:Int)) (fun i=>S.size -(intOf i).toNat)
 case atStart=>exact⟨0,cO _,rfl⟩
 case round=>
  obtain⟨k,en,rfl⟩:=hrel;have kL:k≤S.size:=(by have au:=r1 S.data.toList;have:=en.out;rw[ch] at au;omega);by_cases bm:k<S.size
  ·have K6:k<S.data.toList.length:=(by rw[ch];exact bm);have fD:(k:Int)<(S.size:Int):=(by omega);by_cases hd:48≤S[k].toNat∧S[k].toNat≤57
   ·have bd:af (k+1≤bK S.data.toList):=No en.out K6 (by rw[oo S k bm];exact (sZ _).2 hd);obtain⟨gL,hE⟩:=hd;go_wp2_with fail;go_round
    case rel=>exact⟨k+1,bd,by go_num⟩
    case measure=>simp[intOf];omega
   ·have bd:af (k=n):=(by show _=_;rw[←oy.out];exact (Jq en.out K6 (by rw[oo S k bm];exact (Jp _).2 (by omega))).symm);by_cases au:48≤S[k].toNat
    ·have ax:¬S[k].toNat≤57:=fun h=>hd ⟨au,h⟩;obtain rfl:k=n:=bd.out;clear bd en;by_cases aF:k=0
     ·have bn:=ao (xj.out aF);have gP:((k:Int)==0)=true:=(by simp;omega);clear aF;go_wp2_with fail;go_ret3;rw[bn.out];exact⟨rfl,0,rfl⟩
     ·have gP:((k:Int)==0)=false:=(by simp;omega);have hp:0<S.size:=(by omega);obtain⟨c,aB⟩:=aq (S[0]);by_cases ik:c=48
      ·have bn:=ao (ju.out hp (aB.trans ik));subst ik;have eC:((48:UInt8).toNat:Int)=48:=rfl;clear aF;go_wp2_with fail;go_ret3;rw[bn.out];exact⟨rfl,0,rfl⟩
      ·have bn:=ao (nM.out aF hp (by rw[aB];exact ik));have eC:((c.toNat:Int)==48)=false:=HC (k:=48) (by decide) ik;clear aF ik;go_wp2_with fail;go_region
       all_goals
        go_wp2_with fail;go_ret3;rw[bn.out];exact⟨rfl,1,rfl⟩
    ·skip
     obtain rfl:k=n:=bd.out;clear bd en;by_cases aF:k=0
     ·have bn:=ao (xj.out aF);have gP:((k:Int)==0)=true:=(by simp;omega);clear aF;go_wp2_with fail;go_ret3;rw[bn.out];exact⟨rfl,0,rfl⟩
     ·have gP:((k:Int)==0)=false:=(by simp;omega);have hp:0<S.size:=(by omega);obtain⟨c,aB⟩:=aq (S[0]);by_cases ik:c=48
      ·have bn:=ao (ju.out hp (aB.trans ik));subst ik;have eC:((48:UInt8).toNat:Int)=48:=rfl;clear aF;go_wp2_with fail;go_ret3;rw[bn.out];exact⟨rfl,0,rfl⟩
      ·have bn:=ao (nM.out aF hp (by rw[aB];exact ik));have eC:((c.toNat:Int)==48)=false:=HC (k:=48) (by decide) ik;clear aF ik;go_wp2_with fail;go_region
       all_goals
        go_wp2_with fail;go_ret3;rw[bn.out];exact⟨rfl,1,rfl⟩
  ·have bd:af (k=n):=(by show _=_;rw[←oy.out];have au:=r1 S.data.toList;have:=en.out;rw[ch] at au;omega);have fD:¬((k:Int)<(S.size:Int)):=(by omega);obtain rfl:k=n:=bd.out;clear bd en;by_cases aF:k=0
   ·have bn:=ao (xj.out aF);have gP:((k:Int)==0)=true:=(by simp;omega);clear aF;go_wp2_with fail;go_ret3;rw[bn.out];exact⟨rfl,0,rfl⟩
   ·have gP:((k:Int)==0)=false:=(by simp;omega);have hp:0<S.size:=(by omega);obtain⟨c,aB⟩:=aq (S[0]);by_cases ik:c=48
    ·have bn:=ao (ju.out hp (aB.trans ik));subst ik;have eC:((48:UInt8).toNat:Int)=48:=rfl;clear aF;go_wp2_with fail;go_ret3;rw[bn.out];exact⟨rfl,0,rfl⟩
    ·have bn:=ao (nM.out aF hp (by rw[aB];exact ik));have eC:((c.toNat:Int)==48)=false:=HC (k:=48) (by decide) ik;clear aF ik;go_wp2_with fail;go_region
     all_goals
      go_wp2_with fail;go_ret3;rw[bn.out];exact⟨rfl,1,rfl⟩
theorem ao5(S:Ua)(n:Int)(hn:af (rk S.data.toList=n))(w:aeo):
  Calls Tryz.prog 180 #[aa S] w fun e w'=>e=ab (I n)∧w=w':=by
 have az:=hn.out;unfold rk at az;by_cases bI:S.data.toList=[49]
 ·rw[aW bI] at az;have aY:(S.toList==[49])=true:=(by rw[hZ];exact gx bI);subst az;clear hn bI;go_enter ID,IE;go_wp2_with fail;go_ret;exact⟨rfl,rfl⟩
 ·rw[aN bI] at az;have aY:(S.toList==[49])=false:=(by rw[hZ];exact fJ bI);by_cases bJ:S.data.toList=[52]
  ·rw[aW bJ] at az;have a6:(S.toList==[52])=true:=(by rw[hZ];exact gx bJ);subst az;clear hn bI bJ;go_enter ID,IE;go_wp2_with fail;go_ret;exact⟨rfl,rfl⟩
  ·rw[aN bJ] at az;have a6:(S.toList==[52])=false:=(by rw[hZ];exact fJ bJ);by_cases dT:S.data.toList=[55]
   ·rw[aW dT] at az;have cV:(S.toList==[55])=true:=(by rw[hZ];exact gx dT);subst az;clear hn bI bJ dT;go_enter ID,IE;go_wp2_with fail;go_ret;exact⟨rfl,rfl⟩
   ·rw[aN dT] at az;have cV:(S.toList==[55])=false:=(by rw[hZ];exact fJ dT);by_cases hz:S.data.toList=[50,48]
    ·rw[aW hz] at az;have iI:(S.toList==[50,48])=true:=(by rw[hZ];exact gx hz);subst az;clear hn bI bJ dT hz;go_enter ID,IE;go_wp2_with fail;go_ret;exact⟨rfl,rfl⟩
    ·rw[aN hz] at az;have iI:(S.toList==[50,48])=false:=(by rw[hZ];exact fJ hz);by_cases mP:S.data.toList=[50,49]
     ·rw[aW mP] at az;have lu:(S.toList==[50,49])=true:=(by rw[hZ];exact gx mP);subst az;clear hn bI bJ dT hz mP;go_enter ID,IE;go_wp2_with fail;go_ret;exact⟨rfl,rfl⟩
     ·rw[aN mP] at az;have lu:(S.toList==[50,49])=false:=(by rw[hZ];exact fJ mP);subst az;clear hn bI bJ dT hz mP;go_enter ID,IE;go_wp2_with fail;go_ret;exact⟨rfl,rfl⟩
theorem VP{t:Ua}(n:Int)(k:Nat)(p:Ja)(c:Nat)(b:Bool)(hn:n=1∨n=4∨n=7∨n=20∨n=21)(aw:k≤1100)(ay:af (lQ n k=b))(w:aeo):
  Calls Tryz.prog 181 #[.agg #[I 3,I n,aa t,ad p k c]] w fun e w'=>e=ab (U b)∧an w w w':=by
 have hx:af (b=lQ n k):=ay.out.symm;clear ay;have cE:∀o,af (an w w (w.alloc o)):=fun o=>(Below.refl _ _).alloc (aP _) _;obtain rfl|rfl|rfl|rfl|rfl:=hn
 ·skip
  by_cases aF:k=4
  ·have gP:((k:Int)==4)=true:=(by simp;omega);go_enter pb,pc;go_wp2_with fail;go_ret;refine⟨h1 ?_,(cE _).out⟩;rw[hx.out];simp[lQ, *]
  ·have gP:((k:Int)==4)=false:=(by simp;omega);by_cases au:k=5
   ·have dP:((k:Int)==5)=true:=(by simp;omega);go_enter pb,pc;go_wp2_with fail;go_ret;refine⟨h1 ?_,(cE _).out⟩;rw[hx.out];simp[lQ, *]
   ·have dP:((k:Int)==5)=false:=(by simp;omega);go_enter pb,pc;go_wp2_with fail;go_ret;refine⟨h1 ?_,(cE _).out⟩;rw[hx.out];simp[lQ, *]
 ·skip
  by_cases aF:k%2=1
  ·have gP:((k:Int)%2==1)=true:=(by simp;omega);have ao6:(Int.tmod (k:Int) 2==1)=true:=(by rw[Bb (by omega)];exact gP);by_cases au:7≤k
   ·have dP:7≤(k:Int):=(by omega);have bM:(k:Int)≤1100:=(by omega);go_enter pb,pc;go_wp2_with fail;go_ret;refine⟨h1 ?_,(cE _).out⟩;rw[hx.out];simp[lQ, *]
   ·have dP:¬7≤(k:Int):=(by omega);go_enter pb,pc;go_wp2_with fail;go_ret;refine⟨h1 ?_,(cE _).out⟩;rw[hx.out];simp[lQ, *]
  ·have gP:((k:Int)%2==1)=false:=(by simp;omega);have ao6:(Int.tmod (k:Int) 2==1)=false:=(by rw[Bb (by omega)];exact gP);go_enter pb,pc;go_wp2_with fail;go_ret;refine⟨h1 ?_,(cE _).out⟩;rw[hx.out];simp[lQ, *]
 ·skip
  by_cases aF:k=6
  ·have gP:((k:Int)==6)=true:=(by simp;omega);go_enter pb,pc;go_wp2_with fail;go_ret;refine⟨h1 ?_,(cE _).out⟩;rw[hx.out];simp[lQ, *]
  ·have gP:((k:Int)==6)=false:=(by simp;omega);go_enter pb,pc;go_wp2_with fail;go_ret;refine⟨h1 ?_,(cE _).out⟩;rw[hx.out];simp[lQ, *]
 ·skip
  by_cases aF:k=7
  ·have gP:((k:Int)==7)=true:=(by simp;omega);go_enter pb,pc;go_wp2_with fail;go_ret;refine⟨h1 ?_,(cE _).out⟩;rw[hx.out];simp[lQ, *]
  ·have gP:((k:Int)==7)=false:=(by simp;omega);go_enter pb,pc;go_wp2_with fail;go_ret;refine⟨h1 ?_,(cE _).out⟩;rw[hx.out];simp[lQ, *]
 ·skip
  by_cases aF:k=6
  ·have gP:((k:Int)==6)=true:=(by simp;omega);go_enter pb,pc;go_wp2_with fail;go_ret;refine⟨h1 ?_,(cE _).out⟩;rw[hx.out];simp[lQ, *]
  ·have gP:((k:Int)==6)=false:=(by simp;omega);go_enter pb,pc;go_wp2_with fail;go_ret;refine⟨h1 ?_,(cE _).out⟩;rw[hx.out];simp[lQ, *]
theorem adj:∀(l:ar) (acc:Nat),(∀c∈l,fi c=true)→Lib.decFrom acc l=some (l.foldl (fun v c=>v *10+(c.toNat-48)) acc)
 |[],acc,_=>rfl
 |c::r,acc,h=>by have aB:=(sZ _).1 (h c (by simp));unfold Lib.decFrom Lib.digitVal;rw[aW aB];exact adj r _ fun d hd=>h d (zO _ hd)
theorem ao7{l:ar}(aF:l≠[])(h:∀c∈l,fi c=true):Lib.atoi l=some (val l:Int):=by
 cases l with
 |nil=>exact absurd rfl aF
 |cons b r=>
  have ay:=(sZ _).1 (h b (by simp));have eG:(b==45)=false:=(by rw[fO];rintro rfl;exact absurd ay (by decide));have fT:(b==43)=false:=(by rw[fO];rintro rfl;exact absurd ay (by decide));show (if (b==45)=true then (Lib.decNat r).map (fun (m:Nat)=>-(m:Int)) else if (b==43)=true then (Lib.decNat r).map (fun (m:Nat)=>(m:Int)) else (Lib.decNat (b::r)).map (fun (m:Nat)=>(m:Int)))=_;unfold Lib.decNat;rw[eG,fT,List.isEmpty_cons,aN (by decide),aN (by decide),aN (by decide),adj _ _ h];rfl
theorem adk{s d r:ar}(h:vM s=some (d,r)):d≠[]∧(∀c∈d,fi c=true)∧d.length≤s.length∧r.length≤s.length:=by
 unfold vM at h;split at h
 ·cases h
 ·rename_i hn;have ax:=wi h;simp only[fg] at ax;obtain⟨rfl,rfl⟩:=ax;have aA:=r1 s;refine⟨?_,?_,?_,?_⟩
  ·intro bb;have bj:=fS List.length bb;rw[lz,kZ] at bj;have b8:bK s≠0:=fun h=>hn (.inl h);omega
  ·intro c aB;obtain⟨i,hi,rfl⟩:=List.getElem_of_mem aB;rw[lz] at hi;rw[List.getElem_take];exact (Aa s).1 i (by omega) (by omega)
  ·rw[lz];omega
  ·rw[e8];omega
theorem ao8(D:Ua)(aF:D.data.toList≠[])(h:∀c∈D.data.toList,fi c=true)(hs:D.size≤18)(n:Int)(hn:(val D.data.toList:Int)=n)(w:aeo):
  Calls Tryz.prog 178 #[aa D] w fun e w'=>e=ab (.tuple #[I n,.nilIface])∧an w w w':=by
 refine (Tryz.strconv_Atoi D _ hs (ao7 aF h) w).mono fun e w' ⟨he,t,bc⟩=>⟨by rw[he,hn],?_⟩;rw[bc];exact⟨rfl,rfl,rfl,by rw[Lib.bytesWorld_size];omega,fun k aw=>Lib.bytesWorld_at_old _ _ _ _ aw⟩
end gK
namespace c1
open Go.RowKit ef
open cB (lQ)
open gK (VP)
abbrev Qi(k n:Int)(m:Nat):Prop:=(k≠2∧k≠3)∨(k=2∧1≤n∧n≤99∧m=1)∨(k=3∧lQ n m=true)
def ao9(k n:Int)(m:Nat)(w:aeo)(e:Ending)(w':aeo):Prop:=(∃b,e=ab (U b)∧(b=true→Qi k n m))∧an w w w'
theorem apa(k n:Int)(t:Ua)(m:Nat)(p:Ja)(c:Nat)(hm:m≤1100)(w:aeo):
  Calls Tryz.prog 181 #[.agg #[I k,I n,aa t,ad p m c]] w (ao9 k n m w):=by
 have cE:∀o,af (an w w (w.alloc o)):=fun o=>(Below.refl _ _).alloc (aP _) _;by_cases aA:k=3
 ·subst aA;by_cases hn:n=1∨n=4∨n=7∨n=20∨n=21
  ·exact (VP n m p c _ hn hm (ao (Eq.refl _)) w).mono fun e w' h=>⟨⟨_,h.1,fun h=>.inr (.inr ⟨rfl,h⟩)⟩,h.2⟩
  ·have eG:(n==1)=false:=(by rw[fO];omega);have n4:(n==4)=false:=(by rw[fO];omega);have IG:(n==7)=false:=(by rw[fO];omega);have aws:(n==20)=false:=(by rw[fO];omega);have awt:(n==21)=false:=(by rw[fO];omega);clear hn;go_enter pb,pc;go_wp2_with fail;go_ret;exact⟨⟨_,rfl,nofun⟩,(cE _).out⟩
 by_cases ax:k=2
 ·subst ax;by_cases ha:1≤n
  ·by_cases ay:n≤99
   ·by_cases aB:m=1
    ·have dP:((m:Int)==1)=true:=(by simp;omega);go_enter pb,pc;go_wp2_with fail;go_ret;exact⟨⟨_,rfl,fun _=>.inr (.inl ⟨rfl,ha,ay,aB⟩)⟩,(cE _).out⟩
    ·have dP:((m:Int)==1)=false:=(by simp;omega);go_enter pb,pc;go_wp2_with fail;go_ret;exact⟨⟨_,rfl,nofun⟩,(cE _).out⟩
   ·go_enter pb,pc;go_wp2_with fail;go_ret;exact⟨⟨_,rfl,nofun⟩,(cE _).out⟩
  ·go_enter pb,pc;go_wp2_with fail;go_ret;exact⟨⟨_,rfl,nofun⟩,(cE _).out⟩
 ·have bJ:(k==2)=false:=(by rw[fO];exact ax);have dT:(k==3)=false:=(by rw[fO];exact aA);by_cases au:k=1
  ·subst au;by_cases aF:n=0
   ·subst aF;go_enter pb,pc;go_wp2_with fail;all_goals (go_ret;exact⟨⟨_,rfl,fun _=>.inl (by decide)⟩,(cE _).out⟩)
   ·have n0:(n==0)=false:=(by rw[fO];exact aF);go_enter pb,pc;go_wp2_with fail;all_goals (go_ret;exact⟨⟨_,rfl,fun _=>.inl (by decide)⟩,(cE _).out⟩)
  ·have bI:(k==1)=false:=(by rw[fO];exact au);have hf:Qi k n m:=.inl ⟨ax,aA⟩;go_enter pb,pc;go_wp2_with fail;go_ret;exact⟨⟨_,rfl,fun _=>hf⟩,(cE _).out⟩
theorem apb{t:gj}{s m:dq}(h:ri t s=some m):m.p.count+1≤1000:=by
 unfold ri at h;split at h
 ·rename_i aB;injection h with h;subst h;exact ahs aB.2
 ·cases h
theorem Mn(add ok:Bool)(s:dq)(vs:List (Int×Int))(k e:Nat):(L8 add ok s vs k e).1.count≤1000:=by
 unfold L8
 repeat' split
 all_goals first
  |exact cO _
  |(rename_i h;have:=apb h;simp only[bf.count];omega)
theorem LX.u{T V:Nat}{vs:List (Int×Int)}{u:Int}{k e:Nat}{Z:aeo}{b:dK}{ok:Bool}{b3:Ending}{w':aeo}(h:LX T V vs u k e Z b ok b3 w'):mT T V vs u k e Z w'∧∃(pl:Ja) (cl:Nat) (pp:Ja) (cp:Nat),b3=ab (.tuple #[jc b (ad pl b.l.length cl) (ad pp bf.nil.len cp),U ok])∧dw (fun k=>Z.heap.size≤k) w' pl cl pp cp ⟨b,.nil⟩:=by obtain⟨au,pl,cl,ax,aA⟩:=h;exact⟨au,pl,cl,none,0,ax,aA⟩
def Qj(T:Nat)(w:aeo)(b3:Ending)(w':aeo):Prop:=∃R,acW T w R b3 w'∧R.1.count≤1000
theorem apc(T V:Nat)(n:Int)(vs:List (Int×Int))(u:Int)(w:aeo)(H:af (e3 T V vs u 0 0 w))(hf:lQ n vs.length=true)(hs:af (∀v∈vs,-1073741824≤v.1∧v.1≤1073741824)):
  Calls Tryz.prog 200 #[ah T 0,I n] w (Qj T w):=by
 unfold lQ at hf;split at hf
 ·rename_i hn;subst hn;have az:vs.length=4∨vs.length=5:=by simpa using hf
  obtain⟨a,d,x,y,l,rfl⟩:∃a d x y l,vs=a::d::x::y::l:=by
   rcases vs with _|⟨a,_|⟨d,_|⟨x,_|⟨y,l⟩⟩⟩⟩<;>simp only[kZ,eT] at az<;>try omega
   exact⟨a,d,x,y,l,rfl⟩
  exact (L' T V 1 _ u 1 (Iq a) (decide (a.1=1)) 4 (fun e=>qq u (kg e (ic u d)) x y) (mY (pU u x y) (jq u d)) .nil (decide (0<jq u d)) w H (.inr ⟨.inl rfl,rfl,a,ao rfl,rfl,rfl⟩) (by omega) hs (by simp only[eT];omega)
   (ao fun _ e Z h=>(aoa T V _ u 1 e d x y Z (ao h) (ao rfl) (ao rfl) (ao rfl) (by omega)).mono fun _ _ h=>h.u) (ao fun h=>absurd h (by decide)) (ao fun h=>absurd h (by decide)) (ao fun h=>absurd h (by decide)) (ao fun h=>absurd h (by decide))).mono fun _ _ h=>⟨_,h,Mn _ _ _ _ _ _⟩
 ·split at hf
  ·rename_i hn;subst hn;have az:vs.length=7:=by simpa using hf
   obtain⟨a,d,x,y,eO,ee,q,rfl⟩:∃a d x y eO ee q,vs=[a,d,x,y,eO,ee,q]:=by
    rcases vs with _|⟨a,_|⟨d,_|⟨x,_|⟨y,_|⟨eO,_|⟨ee,_|⟨q,_|⟨_,_⟩⟩⟩⟩⟩⟩⟩⟩<;>simp only[kZ,eT] at az<;>try omega
    exact⟨a,d,x,y,eO,ee,q,rfl⟩
   exact (L' T V 20 _ u 1 (Iq a) (decide (a.1=1)) 6 (fun e=>qq u (qq u (kg e (ic u d)) x y) eO ee) (Vm (pU u x y) (pU u eO ee) (jq u d)) .nil (decide (0<jq u d)&&decide (pU u x y≠pU u eO ee)) w H (.inr ⟨.inr (.inl rfl),rfl,a,ao rfl,rfl,rfl⟩) (show 7≤2000 by decide) hs (show 6≤7 by decide)
    (ao fun h=>absurd h (by decide)) (ao fun _ e Z h=>(aob T V _ u 1 e d x y eO ee Z (ao h) (ao rfl) (ao rfl) (ao rfl) (ao rfl) (ao rfl) (show 7≤100000 by decide)).mono fun _ _ h=>h.u) (ao fun h=>absurd h (by decide)) (ao fun h=>absurd h (by decide)) (ao fun h=>absurd h (by decide))).mono fun _ _ h=>⟨_,h,Mn _ _ _ _ _ _⟩
  ·split at hf
   ·rename_i Qk hn;have az:vs.length=6:=by simpa using hf
    obtain⟨a,d,g,x,y,q,rfl⟩:∃a d g x y q,vs=[a,d,g,x,y,q]:=by
     rcases vs with _|⟨a,_|⟨d,_|⟨x,_|⟨y,_|⟨eO,_|⟨ee,_|⟨_,_⟩⟩⟩⟩⟩⟩⟩<;>simp only[kZ,eT] at az<;>try omega
     exact⟨a,d,x,y,eO,ee,rfl⟩
    rcases hn with rfl|rfl
    ·exact (L' T V 21 _ u 1 (Iq a) (decide (a.1=1)) 5 (fun e=>qq u (kg (kg e (ic u d)) (ic u g)) x y) (mZ [xb (pU u x y) (jq u d) (jq u g)]) .nil (decide (0<jq u d)&&decide (0<jq u g)) w H (.inr ⟨.inr (.inr (.inl rfl)),rfl,a,ao rfl,rfl,rfl⟩) (show 6≤2000 by decide) hs (show 5≤6 by decide)
      (ao fun h=>absurd h (by decide)) (ao fun h=>absurd h (by decide)) (ao fun _ e Z h=>(aoe T V _ u 1 e d g x y Z (ao h) (ao rfl) (ao rfl) (ao rfl) (ao rfl) (show 6≤100000 by decide)).mono fun _ _ h=>h.u) (ao fun h=>absurd h (by decide)) (ao fun h=>absurd h (by decide))).mono fun _ _ h=>⟨_,h,Mn _ _ _ _ _ _⟩
    ·exact (L' T V 7 _ u 0 0 true 5 (fun e=>if jq u g≤jq u x∨jq u g≤jq u y then gC (kg (kg (kg (qq u e a d) (ic u g)) (ic u x)) (ic u y)) 4 else kg (kg (kg (qq u e a d) (ic u g)) (ic u x)) (ic u y)) iG (L2 (pU u a d) (jq u g) (jq u x) (jq u y)) true w H (.inl ⟨rfl,rfl,rfl,rfl⟩) (show 6≤2000 by decide) hs (show 5≤6 by decide)
      (ao fun h=>absurd h (by decide)) (ao fun h=>absurd h (by decide)) (ao fun h=>absurd h (by decide)) (ao fun h=>absurd h (by decide)) (ao fun _=>⟨rfl,fun e Z h=>(aok T V _ u 0 e a d g x y Z (ao h) (ao rfl) (ao rfl) (ao rfl) (ao rfl) (ao rfl) (show 6≤2000 by decide) _ rfl _ rfl _ rfl _ rfl _ rfl).mono fun _ _ ⟨au,pp,cp,ax,aA⟩=>⟨au,none,0,pp,cp,ax,aA⟩⟩)).mono fun _ _ h=>⟨_,h,Mn _ _ _ _ _ _⟩
   ·split at hf
    ·rename_i hn;subst hn;simp only[qv,p0] at hf;obtain⟨au,ax,aA⟩:=hf
     obtain⟨a,v,l,rfl⟩:∃a v l,vs=a::v::l:=by
      rcases vs with _|⟨a,_|⟨v,l⟩⟩<;>simp only[kZ,eT] at ax<;>try omega
      exact⟨a,v,l,rfl⟩
     obtain⟨m,hm⟩:∃m,(a::v::l).length=m *2+3:=⟨((a::v::l).length-3)/ 2,by omega⟩
     exact (L' T V 4 _ u 1 (Iq a) (decide (a.1=1)) (2+m *2) (fun e=>if n8 u (a::v::l) 2 (m-1)≠n8 u (a::v::l) 2 0 then gC (sM u (a::v::l) 2 (if Im v (a::v::l).length then gC e 4 else e) m) 4 else sM u (a::v::l) 2 (if Im v (a::v::l).length then gC e 4 else e) m) (mZ [((List.range m).map (n8 u (a::v::l) 2)).dropLast]) .nil true w H (.inr ⟨.inr (.inr (.inr rfl)),rfl,a,ao rfl,rfl,rfl⟩) (by omega) hs (by omega)
      (ao fun h=>absurd h (by decide)) (ao fun h=>absurd h (by decide)) (ao fun h=>absurd h (by decide)) (ao fun _=>⟨rfl,fun e Z h=>(aof T V _ u 1 e v m Z (ao h) (ao rfl) (by omega) (by omega) (by omega) (by omega) (by omega) (hs.out v (by simp))).mono fun _ _ ⟨au,pl,cl,ax,aA⟩=>⟨au,pl,cl,none,0,ax,aA⟩⟩) (ao fun h=>absurd h (by decide))).mono fun _ _ h=>⟨_,h,Mn _ _ _ _ _ _⟩
    ·cases hf
end c1
namespace n2
open Go.RowKit gI ga jz Fr
theorem apd:(Tryz.prog.info? 268).map (fun i=>(i.zero,i.size,i.bytes))=some (some (.agg #[I 0,I 0]),2,16):=by kernel_rfl
structure sQ(w0:aeo)(v:ada)(st:List (Int×Int))(w:aeo):Prop where
 own:w.ownsRow (w0.heap.size+1) 268 2 v st.length (hL.e' st)
 res:w.heap[w0.heap.size]?=some (dG 0 0)
 aM:an w0 w0 w
variable{w0 w:aeo}{v:ada}{st vars:List (Int×Int)}
theorem sQ.lt(h:sQ w0 v st w):w0.heap.size<w.heap.size:=(Array.getElem?_eq_some_iff.1 h.res).1
theorem sQ.below{w':aeo}(h:sQ w0 v st w)(ay:an w w w'):sQ w0 v st w':=
 ⟨h.own.kept (row:=none) ⟨ay.os,ay.tape,ay.output,ay.size,fun k aw _=>ay.block k aw⟩ (by cases v.ownBlock<;>simp),(ay.block _ h.lt).trans h.res,h.aM.trans (ay.mono h.aM.size)⟩
variable{B b g:Nat}{e:aai}
theorem adl{p:Ja}{c:Nat}{l:List (Int×Int)}(h:w.ownsRow B e 2 (ad p l.length c) l.length (hL.e' l))(k:Nat)(aw:k≤l.length):
  w.ownsRow B e 2 (ad p k c) k (hL.e' (l.take k)):=by
 rcases h.2 with ⟨eQ,aF⟩|⟨mG,k7,cur,eQ,_⟩
 ·obtain rfl:l=[]:=lP aF;obtain rfl:k=0:=(by simpa using aw);simp only[JJ] at eQ;obtain⟨rfl,_,rfl⟩:=eQ;exact⟨rfl,.inl ⟨rfl,rfl⟩⟩
 ·injection eQ with au ax aA;subst au;exact an4 h k aw
variable{k n N D:Int}
theorem Db(h:w.heap[b]?=some (Ii k n)):ak w b 0 (I k)∧ak w b 1 (I n):=by refine⟨?_,?_⟩<;>simp[World.cell?,h]
theorem ba{v:aeo}{o:Obj}(h:w.heap[b]?=some o)(ay:an w w v):v.heap[b]?=some o:=
 (ay.block b (Array.getElem?_eq_some_iff.1 h).1).trans h
theorem nP{t:aai}{aR n:Nat}{xs:aev}(h:w.ownsRow B e aR v n xs){cs:ajv}{dk:Nat×Nat}(ay:w.heap[b]?=some (.cells cs t dk))(he:e≠t):v.ownBlock≠some b:=by
 rcases h.2 with ⟨rfl,_⟩|⟨g,cap,cur,rfl,_,aE,_⟩
 ·simp[Value.ownBlock]
 ·intro ax;have:g=b:=(by simpa[Value.ownBlock] using ax);subst this;rw[ay] at aE;injection aE with aE;injection aE with _ bc;exact he bc.symm
structure sR(w0:aeo)(B:Nat)(v:ada)(st:List (Int×Int))(k n:Int)(g:Nat)(N D:Int)(w:aeo):Prop where
 pX:sQ w0 v st w
 op:w.heap[B]?=some (Ii k n)
 val:w.heap[g]?=some (dG N D)
 ne:v.ownBlock≠some g
 ns:B≠g
 FX:w0.heap.size<g
theorem sR.below{w0 w w':aeo}{B:Nat}{v:ada}{st:List (Int×Int)}{k n:Int}{g:Nat}{N D:Int}(h:sR w0 B v st k n g N D w)(ay:an w w w'):sR w0 B v st k n g N D w':=
 ⟨h.pX.below ay,ba h.op ay,ba h.val ay,h.ne,h.ns,h.FX⟩
theorem sR.set(h:sR w0 B v st k n g N D w)(Dc Dd:Int):
  sR w0 B v st k n g Dc Dd ((w.setCell (aj g 0) (I Dc)).setCell (aj g 1) (I Dd)):=by
 have ay:an w0 w ((w.setCell (aj g 0) (I Dc)).setCell (aj g 1) (I Dd)):=((Below.refl _ _).setCell (by have:=h.FX;show _≤g;omega) _).setCell (by have:=h.FX;show _≤g;omega) _;have hne (b:Nat) (ay:b≠g):((w.setCell (aj g 0) (I Dc)).setCell (aj g 1) (I Dd)).heap[b]?=w.heap[b]?:=by rw[hC _ _ _ _ ay,hC _ _ _ _ ay]
 refine⟨⟨hL.Hg (hL.Hg h.pX.own h.ne _) h.ne _,?_,h.pX.aM.trans ay⟩,?_,vu h.val _ _,h.ne,h.ns,h.FX⟩
 ·rw[hne _ (by have:=h.FX;omega)];exact h.pX.res
 ·rw[hne _ h.ns];exact h.op
theorem sR.new(h:sQ w0 v st w)(a1:w.heap[B]?=some (Ii k n)):sR w0 B v st k n w.heap.size 0 0 (w.alloc (dG 0 0)):=by
 have bz:=(Array.getElem?_eq_some_iff.1 a1).1;refine⟨h.below ((Below.refl _ _).alloc (aP _) _),?_,?_,?_,by omega,h.lt⟩
 ·rw[qL _ _ _ bz];exact a1
 ·show (w.heap.push _)[w.heap.size]?=_;simp
 ·intro he;have:=(h.own.lt _ he).2;omega
theorem sQ.fin(h:sQ w0 v st w)(N D:Int):∀x,x=(w.setCell (aj w0.heap.size 0) (I N)).setCell (aj w0.heap.size 1) (I D)→
  x.heap[w0.heap.size]?=some (dG N D)∧an w0 w0 x:=by
 rintro x rfl;exact⟨vu h.res N D,(h.aM.setCell (aP _) _).setCell (aP _) _⟩
theorem ape{l:List (Int×Int)}{j:Nat}{r:Int×Int×Nat}(b6:j<l.length)(aw:l[j].1=k)(hn:l[j].2=n)(h:iF vars (l.drop j) st=r):
  (if (ny vars st k n).2=0 then iF vars (l.drop (j+1)) (ny vars st k n).1 else (0,0,(ny vars st k n).2))=r:=by
 rw[rZ b6,iF,aw,hn] at h;exact h
theorem sR.fin{w0 w:aeo}{B:Nat}{v:ada}{st:List (Int×Int)}{k n:Int}{g:Nat}{N D:Int}(h:sR w0 B v st k n g N D w)(Dc Dd:Int):∀x,x=(w.setCell (aj w0.heap.size 0) (I Dc)).setCell (aj w0.heap.size 1) (I Dd)→
 x.heap[w0.heap.size]?=some (dG Dc Dd)∧an w0 w0 x:=h.pX.fin Dc Dd
theorem sQ.push{w':aeo}{v2 v':ada}{o:Obj}(h:sQ w0 v st w)(aS:v2.ownBlock=v.ownBlock)(aI:((w.alloc o).drew).grownBy w' v2.ownBlock)(m:Nat)(hm:m≤st.length)(a1:w'.ownsRow (w0.heap.size+1) 268 2 v' (m+1) (hL.e' (st.take m)++[I N,I D])):sQ w0 v' (st.take m++[(N,D)]) w':=by
 rw[aS] at aI;have aI:(w.alloc o).grownBy w' v.ownBlock:=⟨aI.os,aI.tape,aI.output,aI.size,aI.block⟩;refine⟨?_,?_,?_⟩
 ·rw[show (st.take m++[(N,D)]).length=m+1 by simp;omega,hL.OB];exact a1
 ·rw[aI.block _ (by have:=h.lt;simp;omega) (fun e=>by have:=(h.own.lt _ e.symm).1;omega),qL _ _ _ h.lt];exact h.res
 ·exact (h.aM.alloc h.aM.size o).grown aI (cd h.aM.size (by simp)) (fun k aw=>by have:=(h.own.lt _ aw).1;omega)
theorem apf{m:Nat}(au:jd k n=true)(ax:uz k≤st.length)(aA:iT vars st k n=(N,D,0))(bb:st.length-uz k=m):ny vars st k n=(st.take m++[(N,D)],0):=by unfold ny;rw[aN (fun h=>h.elim (fun h=>by rw[au] at h;cases h) fun h=>by omega),aA,bb];rfl
theorem apg{e:Nat}(au:jd k n=true)(ax:uz k≤st.length)(aA:iT vars st k n=(N,D,e))(bb:e≠0):(ny vars st k n).2=e:=by unfold ny;rw[aN (fun h=>h.elim (fun h=>by rw[au] at h;cases h) fun h=>by omega),aA,aN bb]
theorem adm(h:jd k n=false∨st.length<uz k):(ny vars st k n).2=3:=by unfold ny;rw[aW h]
theorem aph{l dh:List (Int×Int)}{r:Int×Int×Nat}(h:(if (ny vars st k n).2=0 then iF vars l (ny vars st k n).1 else (0,0,(ny vars st k n).2))=r)(au:ny vars st k n=(dh,0)):iF vars l dh=r:=by rw[au,aW rfl] at h;exact h
theorem VQ{l:List (Int×Int)}{r:Int×Int×Nat}{e:Nat}(h:(if (ny vars st k n).2=0 then iF vars l (ny vars st k n).1 else (0,0,(ny vars st k n).2))=r)(au:(ny vars st k n).2=e)(he:e≠0):r=(0,0,e):=by rw[au,aN he] at h;exact h.symm
theorem VR{c:Nat}(h:w.ownsRow B e 2 (ag g 0 st.length c) st.length (hL.e' st))(i:Nat)(hi:i<st.length):
  ak w g (i *2) (I (st.getD i (0,0)).1)∧ak w g (i *2+1) (I (st.getD i (0,0)).2):=by
 have hp:=uc st i hi;have hd:st.getD i (0,0)=st[i]:=by simp[List.getD,hi]
 rw[h.cellAt (i *2) (by omega),h.cellAt (i *2+1) (by omega),hd];exact hp
theorem VS(w:aeo)(h:b≠g)(u v:ada)(a:Nat):(((w.setCell (aj g 0) u).setCell (aj g 1) v).drew).cell? ⟨b,a,none⟩=w.cell? (aj b a):=by show (World.setCell (World.setCell w _ _) _ _).cell? _=_;rw[adh _ _ _ _ (by intro e;simp only[PN] at e;exact h e.1.symm),adh _ _ _ _ (by intro e;simp only[PN] at e;exact h e.1.symm)]
theorem sR.drew{w0 w:aeo}{B:Nat}{v:ada}{st:List (Int×Int)}{k n:Int}{g:Nat}{N D:Int}(h:sR w0 B v st k n g N D w):sR w0 B v st k n g N D w.drew:=h.below ⟨rfl,rfl,rfl,aP _,fun _ _=>rfl⟩
theorem Mo(w:aeo)(h:b≠g)(u v:ada)(a:Nat):((w.setCell (aj g 0) u).setCell (aj g 1) v).cell? ⟨b,a,none⟩=w.cell? (aj b a):=VS w h u v a
theorem api(h:st.length=1):p2 st=((st.getD 0 (0,0)).1,(st.getD 0 (0,0)).2,0):=by
 match st,h with
 |[x],_=>rfl
theorem apj(h:¬st.length=1):p2 st=(0,0,3):=by
 match st,h with
 |[],_=>rfl
 |[x],h=>exact absurd rfl h
 |_::_::_,_=>rfl
end n2
