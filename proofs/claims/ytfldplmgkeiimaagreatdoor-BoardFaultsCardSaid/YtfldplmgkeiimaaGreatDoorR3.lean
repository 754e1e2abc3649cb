/- Lemmas. -/
import Derived.Test.YtfldplmgkeiimaaGreatDoorR2
import Derived.Deep.CutBlock
set_option linter.all false
set_option maxRecDepth 100000
set_option maxHeartbeats 6400000
namespace Go.Proofs.YtfldplmgkeiimaaGreatDoor
abbrev Bb:=@Bool.or_eq_true
abbrev jh:=@Bool.and_eq_true
abbrev MA:=@Proofs.Tryz.func115
abbrev MB:=@Proofs.Tryz.ntmps115
abbrev dU:=@bodyPost_ret
abbrev MC:=@Proofs.Tryz.results115
abbrev wK:=@bne_iff_ne
abbrev MD:=@List.getElem_drop
abbrev si:=@List.drop_drop
abbrev WS:=@List.length_filter_le
abbrev n7:=@Option.some.injEq
abbrev WT:=@List.take_append_of_le_length
abbrev WU:=@List.drop_append_of_le_length
abbrev yg:=@List.getElem?_drop
abbrev wL:=@Bool.false_eq_true
abbrev yh:=@List.map_cons
abbrev cY:=@IntWalk.i64_in
namespace pk
open Go.RowKit kR ig zi
def lf(w:aeo):Prop:=∃m,ak w 0 0 (I m)
theorem lf.below{w w':aeo}(h:lf w)(ax:ao w w w'):lf w':=by
 obtain⟨m,hm⟩:=h;have bR:0<w.heap.size:=by apply uK;intro hn;have:w.heap[0]?=none:=HX (by omega);simp[World.cell?,this] at hm
 exact⟨m,(ax.cell (p:=⟨0,0,none⟩) bR).trans hm⟩
theorem agA(S R:Ua)(hs:S.size≤1000000)(h:af (R.data.toList=S.data.toList.filter (· !=13)))(w:aeo)(hm:lf w):
  Calls Tryz.prog 116 #[aa S,aa ⟨#[13]⟩,aa ⟨#[]⟩] w fun e w'=>e=ab (aa R)∧ao w w w':=by
 obtain⟨m,hm⟩:=hm;refine (Tryz.strings_ReplaceAll S ⟨#[13]⟩ ⟨#[]⟩ m w (by omega) hm (by decide) (by show S.size+Lib.countB S ⟨#[13]⟩ *0≤_;omega)).mono fun e w' ⟨he,hw⟩=>⟨?_,hw⟩;rw[he];have a7:Lib.replaceAll S.data.toList (⟨#[13]⟩:Ua).data.toList (⟨#[]⟩:Ua).data.toList=R.data.toList:=by rw[h.out];exact agr 13 S.data.toList
 rw[a7,n5]
theorem ME{S T:Ua}(h:S.data.toList=T.data.toList):S=T:=by cases S;cases T;exact fp ByteArray.mk (Array.ext' h)
def CZ(l:au):Bool:=decide (l=[77,52,56])||(decide (l=[77,69,84,82,73,67])||(decide (l=[37])|| decide (l=[77,51,48])))
variable{l:au}
theorem QQ(h:CZ l=true):l=[77,52,56]∨l=[77,69,84,82,73,67]∨l=[37]∨l=[77,51,48]:=by simpa[CZ,Bb] using h
theorem agB(h:CZ l=true):∃d,yb l=some d:=by rcases QQ h with rfl|rfl|rfl|rfl<;>exact⟨_,rfl⟩
def zn:Nat→au→Bool
 |0,r=>decide (r=[])
 |k+1,r=>decide (r=[])||(CZ (fZ r)&&zn k (r.drop ((fZ r).length+1)))
theorem agC{fu:Nat}{r:au}(h:zn fu r=true)(hne:r≠[]):∃f2,CZ (fZ r)=true∧q4 (fZ r)=0∧(fZ r).filter (· !=13)=fZ r∧0<(fZ r).length∧zn f2 (r.drop ((fZ r).length+1))=true:=by
 cases fu with
 |zero=>exact absurd (Mj h) hne
 |succ k=>
  have az:CZ (fZ r)=true∧zn k (r.drop ((fZ r).length+1))=true:=(by unfold zn at h;rw[ey hne,QA,jh] at h;exact h);refine⟨k,az.1,?_,?_,?_,az.2⟩<;>(rcases QQ az.1 with e|e|e|e<;>rw[e]<;>decide)
theorem agD(S:Ua)(aA:CZ S.data.toList=true)(d:D)(h:af (yb S.data.toList=some d))(w:aeo):
  Calls Tryz.prog 115 #[aa S] w (yf (some d) w):=by
 have aV:af (nH w _):=A' w;rcases QQ aA with e|e|e|e
 ·obtain rfl:S=⟨#[77,52,56]⟩:=ME e;obtain rfl:fI 2=d:=q5 ((show yb [77,52,56]=some (fI 2) by decide+kernel).symm.trans h.out);clear h e aA;go_enter MA,MB;go_upto_region 1 with fail;generalize w.alloc Fv=b7 at aV⊢;obtain⟨⟨aQ,aN,aJ,c3,bF,c5,bZ,b',bU,bg⟩,f0,f1,f2,f3,f4,f5,f6,f7,f8,f9⟩:=ra aV.out.a;have aO:=aq (Mz aV.out.b aV.out.a (fI 2) 0 bN);go_wp2_with fail;refine dU (w:=wI b7 w.heap.size (fI 2) 0 bN) (v:=.tuple #[A9 (fI 2) 0 bN,U true]) ?_ rfl ⟨aO.out.2,none,0,rfl,dH.nil _ _ _⟩;clear aQ aN aJ c3 bF c5 bZ b' bU bg f0 f1 f2 f3 f4 f5 f6 f7 f8 f9;generalize wI b7 w.heap.size (fI 2) 0 bN=e5 at aO⊢;obtain⟨⟨aQ,aN,aJ,c3,bF,c5,bZ,b',bU,bg⟩,_⟩:=ra aO.out.1;simp[results,MC,go_sem,aQ,aN,aJ,c3,bF,c5,bZ,b',bU,bg]<;>rfl
 ·obtain rfl:S=⟨#[77,69,84,82,73,67]⟩:=ME e;obtain rfl:{fI 3 with n:=1}=d:=q5 ((show yb [77,69,84,82,73,67]=some {fI 3 with n:=1} by decide+kernel).symm.trans h.out);clear h e aA;go_enter MA,MB;go_upto_region 1 with fail;generalize w.alloc Fv=b7 at aV⊢;obtain⟨⟨aQ,aN,aJ,c3,bF,c5,bZ,b',bU,bg⟩,f0,f1,f2,f3,f4,f5,f6,f7,f8,f9⟩:=ra aV.out.a;have aO:=aq (Mz aV.out.b aV.out.a {fI 3 with n:=1} 0 bN);go_wp2_with fail;refine dU (w:=wI b7 w.heap.size {fI 3 with n:=1} 0 bN) (v:=.tuple #[A9 {fI 3 with n:=1} 0 bN,U true]) ?_ rfl ⟨aO.out.2,none,0,rfl,dH.nil _ _ _⟩;clear aQ aN aJ c3 bF c5 bZ b' bU bg f0 f1 f2 f3 f4 f5 f6 f7 f8 f9;generalize wI b7 w.heap.size {fI 3 with n:=1} 0 bN=e5 at aO⊢;obtain⟨⟨aQ,aN,aJ,c3,bF,c5,bZ,b',bU,bg⟩,_⟩:=ra aO.out.1;simp[results,MC,go_sem,aQ,aN,aJ,c3,bF,c5,bZ,b',bU,bg]<;>rfl
 ·obtain rfl:S=⟨#[37]⟩:=ME e;obtain rfl:fI 5=d:=q5 ((show yb [37]=some (fI 5) by decide+kernel).symm.trans h.out);clear h e aA;go_enter MA,MB;go_upto_region 1 with fail;generalize w.alloc Fv=b7 at aV⊢;obtain⟨⟨aQ,aN,aJ,c3,bF,c5,bZ,b',bU,bg⟩,f0,f1,f2,f3,f4,f5,f6,f7,f8,f9⟩:=ra aV.out.a;have aO:=aq (Mz aV.out.b aV.out.a (fI 5) 0 bN);go_wp2_with fail;refine dU (w:=wI b7 w.heap.size (fI 5) 0 bN) (v:=.tuple #[A9 (fI 5) 0 bN,U true]) ?_ rfl ⟨aO.out.2,none,0,rfl,dH.nil _ _ _⟩;clear aQ aN aJ c3 bF c5 bZ b' bU bg f0 f1 f2 f3 f4 f5 f6 f7 f8 f9;generalize wI b7 w.heap.size (fI 5) 0 bN=e5 at aO⊢;obtain⟨⟨aQ,aN,aJ,c3,bF,c5,bZ,b',bU,bg⟩,_⟩:=ra aO.out.1;simp[results,MC,go_sem,aQ,aN,aJ,c3,bF,c5,bZ,b',bU,bg]<;>rfl
 ·obtain rfl:S=⟨#[77,51,48]⟩:=ME e;obtain rfl:fI 15=d:=q5 ((show yb [77,51,48]=some (fI 15) by decide+kernel).symm.trans h.out);clear h e aA;go_enter MA,MB;go_upto_region 1 with fail;generalize w.alloc Fv=b7 at aV⊢;obtain⟨⟨aQ,aN,aJ,c3,bF,c5,bZ,b',bU,bg⟩,f0,f1,f2,f3,f4,f5,f6,f7,f8,f9⟩:=ra aV.out.a;have aO:=aq (Mz aV.out.b aV.out.a (fI 15) 0 bN);go_wp2_with fail;refine dU (w:=wI b7 w.heap.size (fI 15) 0 bN) (v:=.tuple #[A9 (fI 15) 0 bN,U true]) ?_ rfl ⟨aO.out.2,none,0,rfl,dH.nil _ _ _⟩;clear aQ aN aJ c3 bF c5 bZ b' bU bg f0 f1 f2 f3 f4 f5 f6 f7 f8 f9;generalize wI b7 w.heap.size (fI 15) 0 bN=e5 at aO⊢;obtain⟨⟨aQ,aN,aJ,c3,bF,c5,bZ,b',bU,bg⟩,_⟩:=ra aO.out.1;simp[results,MC,go_sem,aQ,aN,aJ,c3,bF,c5,bZ,b',bU,bg]<;>rfl
theorem agE(S:Ua)(hs:S.size≤1000)(rb:CM S.data.toList≤20000)(ix:af (∀i (h:i<S.size),S[i]≠13∧tm S[i]=true))(pP:af (zn S.size S.data.toList=true))(w:aeo)(ff:af (lf w))(l:List (Nat×D))(hp:af (Qu S.data.toList=(l,0,0))):
  Calls Tryz.prog 77 #[aa S] w (agy l 0 0 w):=by
 obtain⟨i0,hi,dy,dJ,dv⟩:=info_parts agx;have b8:=aq (And.intro hi (And.intro dy (And.intro dJ dv)));clear hi dy dJ dv;obtain⟨nl,gj⟩:∃nl:Nat,CM S.data.toList=nl:=⟨_,rfl⟩;have hx:=hp.out;unfold Qu at hx;rw[cb,gj] at hx;have hN:af ((CM S.data.toList:Int)=(nl:Int)):=by show _=_;rw[gj]
 rw[gj] at rb;clear hp gj
 ·rw[aW (by rintro (h|h)<;>omega)] at hx;have WV:S.size≤1000000:=(by omega);have cR:af ((if sp tm S.data.toList<S.size then ([],sp tm S.data.toList,2) else qg S.size S.data.toList 0 [])=(l,0,0)):=hx;clear hx;go_enter Tryz.func77,Tryz.ntmps77;go_wp2_with fail;with_reducible refine (agd S (by omega) (nl:Int) hN _).mono ?_
  rintro h3 w' ⟨rfl,rfl⟩;go_wp2_with fail
  go_loop [5] (fun i=>∃j:Nat,j≤S.size∧af (j≤sp tm S.data.toList)∧i=I j) (fun i=>S.size -(intOf i).toNat)
  case atStart=>exact⟨0,dO _,dO _,rfl⟩
  case round=>
   obtain⟨j,cd,cG,rfl⟩:=hrel;by_cases bR:j<S.size
   ·have gU:(j:Int)<(S.size:Int):=(by omega);obtain⟨c,hc⟩:=ar (S[j]);obtain⟨aA,gi⟩:=Fm S j bR;rw[hc] at gi;have c1:af (tm c=true→j+1≤sp tm S.data.toList):=fun h=>Wt cG.out aA (by rw[gi];exact h);have ka:=ix.out j bR;rw[hc] at ka;have hM:af (j+1≤sp tm S.data.toList):=c1.out ka.2;clear aA gi;have n8:=ka.1
    ·have g13:((c.toNat:Int)==13)=false:=(by rw[kS];intro e;exact n8 (UInt8.toNat_inj.1 (by show c.toNat=13;omega)));have avF:((c.toNat:Int) !=13)=true:=(by rw[wK];intro e;exact n8 (UInt8.toNat_inj.1 (by show c.toNat=13;omega)));by_cases mw:c=10
     ·subst mw;clear ka;have Fo:((10:UInt8).toNat:Int)=10:=rfl;go_wp2_with fail;go_round
      case rel=>exact⟨j+1,by omega,hM.out,by go_num⟩
      case measure=>simp[intOf];omega
     ·have g10:((c.toNat:Int)==10)=false:=(by rw[kS];intro e;exact mw (UInt8.toNat_inj.1 (by show c.toNat=10;omega)));have C0:((c.toNat:Int) !=10)=true:=(by rw[wK];intro e;exact mw (UInt8.toNat_inj.1 (by show c.toNat=10;omega)));have ax:L5 c=true:=(by have h:=ka.2;unfold tm at h;rw[beq_eq_false_iff_ne.2 n8,beq_eq_false_iff_ne.2 mw] at h;exact h);have aI:=aq ax;clear n8 mw ax ka;go_wp2_with fail;with_reducible refine (agc c _ (aq (Eq.refl _)) true aI _).mono ?_
      rintro h3 w' ⟨rfl,rfl⟩;go_wp2_with fail;go_round
      case rel=>exact⟨j+1,by omega,hM.out,by go_num⟩
      case measure=>simp[intOf];omega
   ·have e0:af (qg S.data.toList.length S.data.toList 0 []=(l,0,0)):=(by show _=_;have aC:=cR.out;rw[aW (by have:=cG.out;omega)] at aC;rw[cb];exact aC);have gU:¬((j:Int)<(S.size:Int)):=(by omega);clear cR cG bR cd;go_upto_region 10 with fail
    go_loopw [6,7] (fun s i wr=>∃(o:Nat) (acc:List (Nat×D)),o≤S.size+1∧acc.length≤o∧i=I o∧af (qg (S.data.toList.drop o).length (S.data.toList.drop o) o acc=(l,0,0)∧∃f,zn f (S.data.toList.drop o)=true)∧af (wJ w s acc wr)) (fun _ i _=>S.size+1 -(intOf i).toNat)
    case atStart=>exact⟨0,[],dO _,dO _,rfl,⟨e0.out,S.size,pP.out⟩,agz w (Below.refl _ _)⟩
    case round=>
    obtain⟨o,acc,bm,WW,rfl,po,bT⟩:=hrel;have wM:=aq po.out.1;obtain⟨fu,zo⟩:=po.out.2;clear po;rename_i wr;by_cases bR:o<S.size
    ·have gU:(o:Int)<(S.size:Int):=(by omega);obtain⟨r,hr⟩:=ar (S.data.toList.drop o);have oR:r.length=S.size-o:=(by rw[←hr,fH,cb]);have QR:r≠[]:=(by intro h;rw[h] at oR;simp at oR;omega);have WX:=go_step QR o acc;rw[hr] at wM zo;have tw:=aq (WX.symm.trans wM.out);obtain⟨f2,MF,QS,Ig,zp,Ih⟩:=agC zo QR;obtain⟨jS,Bc⟩:=ar (fZ r);rw[Bc] at MF QS Ig zp Ih;have Fx:=aq (And.intro MF (And.intro QS (And.intro Ig (And.intro zp Ih))));have agF:jS.length≤r.length:=(by rw[←Bc];exact agt r);have QT:jS=r.take jS.length:=(by rw[←Bc];exact ags r);have kB:=agu r;rw[Bc] at tw kB;obtain⟨n,hn⟩:∃n:Nat,jS.length=n:=⟨_,rfl⟩;rw[hn] at tw kB agF QT;have CY:af (Lib.indexByte r 10=if n<r.length then (n:Int) else -1):=kB;have bw:af ((S.extract o S.size).data.toList=r):=(by show _=_;rw[jP];exact hr);have Ii:af (S.data.toList.drop o=r):=hr;have oT:af (jS=r.take n∧jS.length=n):=⟨QT,hn⟩;have avG:o+n≤S.size:=(by omega);clear wM WX Bc kB hr QT hn QR MF QS Ig zp Ih zo;go_wp2_with fail;with_reducible refine (QK _ _ _).mono ?_
     rintro h3 w' ⟨rfl,rfl⟩;rw[bw.out];obtain⟨Ia,kB⟩:=ar (Lib.indexByte r (Int.toNat 10).toUInt8);have kp:af (Ia=if n<r.length then (n:Int) else -1):=(by show _=_;rw[←kB];exact CY.out);rw[kB];clear kB CY;obtain⟨E,Bd⟩:=ar (o+n);go_upto_if 56 with fail;go_cut [8] (fun v dw=>v=I (E:Int)∧w'=dw)
     case first=>
      by_cases yi:n<r.length
      ·have mE:Ia=(n:Int):=(by rw[kp.out,bb yi]);subst mE;have lZ:(o:Int)+(n:Int)=(E:Int):=(by omega);have l0:(0:Int)≤(n:Int):=Fq _;go_wp2_with fail;go_meet;exact⟨rfl,rfl⟩
      ·have mE:Ia= -1:=(by rw[kp.out,aW yi]);subst mE;have lZ:(S.size:Int)=(E:Int):=(by omega);go_wp2_with fail;go_meet;exact⟨by rw[lZ],rfl⟩
     case rest=>
     obtain⟨rfl,rfl⟩:=hcut;have avH:E≤S.size:=(by omega);have avI:(o:Int)≤(E:Int):=(by omega);have bl:af (o+n=E):=Bd;clear kp Bd;go_upto_region 16 with fail
     go_loop [10] (fun x=>∃k:Nat,o+k≤E∧af (k≤q4 jS)∧x=I ((o+k:Nat):Int)) (fun x=>E -(intOf x).toNat)
     case atStart=>exact⟨0,by omega,dO _,rfl⟩
     case round=>
      obtain⟨k,ay,cQ,rfl⟩:=hrel;obtain⟨A,hA⟩:=ar (o+k);have cy:=aq hA;rw[hA] at ay;rw[hA];by_cases uQ:A<E
      ·have avJ:(A:Int)<(E:Int):=(by omega);have WY:A<S.size:=(by omega);obtain⟨c,hc⟩:=ar (S[A]);have agG:∃aA:k<jS.length,jS[k]=c:=(by obtain⟨av,az⟩:=oT.out;have aC:=bl.out;refine⟨by omega,?_⟩;obtain⟨aA,he⟩:=Fm S A WY;rw[←hc,←he];simp only[av,Mk];have hO:r[k]'(by rw[oR];omega)=(S.data.toList.drop o)[k]'(by rw[Ii.out,oR];omega):=(by simp only[Ii.out]);rw[hO,MD];simp only[hA]);obtain⟨MG,WZ⟩:=agG;have n8:c≠13:=by rw[←hc];exact (ix.out A WY).1
       ·have g13:((c.toNat:Int)==13)=false:=(by rw[kS];intro e;exact n8 (UInt8.toNat_inj.1 (by show c.toNat=13;omega)));have Ij:af (q4 jS=k):=Wu cQ.out MG (by simp only[WZ,kS];exact n8);have hne:((A:Int)==(E:Int))=false:=(by rw[kS];omega);have QU:(S.extract A E).data.toList=jS.drop k:=(by have av:=oT.out.1;have aC:=bl.out;rw[Fs,av,←Ii.out,List.take_drop,si,aC,hA]);have tx:(S.extract A E).size≤1000000:=(by rw[←cb,QU,fH];have:=oT.out.2;omega);obtain⟨R,Fy⟩:=jQ (jS.filter (· !=13));have agH:af (R.data.toList=(S.extract A E).data.toList.filter (· !=13)):=(by show _=_;rw[QU,Fy];have:=agv jS;rw[Ij.out] at this;exact this.symm);have W1:af (R.data.toList=jS):=Fy.trans Fx.out.2.2.1;have avK:0<R.size:=(by rw[←cb,Fy];exact agw (by rw[Ij.out];exact MG));have avL:R.size≤maxLen:=(by rw[←cb,Fy];have:=WS (· !=13) jS;have:=oT.out.2;unfold maxLen;omega);have Ik:=tw.out;rw[Ij.out,aW (by have:=oT.out.2;omega),←Fy] at Ik;have wM:=aq Ik;clear Ik Fy QU WZ MG n8 hA;go_wp2_with fail;with_reducible refine (agA (S.extract A E) R tx agH _ (ff.out.below bT.out.aX)).mono ?_
        rintro h3 cc ⟨rfl,er⟩;have lE:=aq (bT.out.below er);clear bT er;obtain⟨d,Il⟩:∃d,yb R.data.toList=some d:=(by rw[W1.out];exact agB Fx.out.1);have agI:=aq Il;rw[Il] at wM;clear Il;go_wp2_with fail;with_reducible refine (agD R (by rw[W1.out];exact Fx.out.1) d agI _).mono ?_
        intro h3 b9 zq;have mF:=aq (lE.out.below zq.1);have agJ:=lE.out.aX.size;have dA:∃p c,h3=ab (.tuple #[A9 d 0 (ad p d.bX.length c),U true])∧dH cc.heap.size b9 p d.bX:=zq.2;clear zq lE;obtain⟨p,c',rfl,hn⟩:=dA;have bd:af (dH w.heap.size b9 p d.bX):=hn.mono agJ;clear hn;dsimp only[A9,Mp];go_upto_region 24 with fail;obtain⟨g,aF⟩:=ar b9.heap.size;have uS:af (_=_):=fJ b9 (ai (#[I (A:Int),I d.k,I d.n,U d.on,aa ⟨d.t.toArray⟩,aa ⟨d.x.toArray⟩,aa ⟨d.y.toArray⟩,aa ⟨d.u.toArray⟩,aa ⟨d.v.toArray⟩,ad p d.bX.length c']) 184);have C1:=(Below.refl b9.heap.size b9).alloc (bx _) (ai (#[I (A:Int),I d.k,I d.n,U d.on,aa ⟨d.t.toArray⟩,aa ⟨d.x.toArray⟩,aa ⟨d.y.toArray⟩,aa ⟨d.u.toArray⟩,aa ⟨d.v.toArray⟩,ad p d.bX.length c']) 184);have qj:=aq (mF.out.below C1);have uT:=aq (bd.out.below C1);rw[aF] at uS;rw[aF];clear mF bd C1 aF;generalize b9.alloc (.cells #[I (A:Int),I d.k,I d.n,U d.on,aa ⟨d.t.toArray⟩,aa ⟨d.x.toArray⟩,aa ⟨d.y.toArray⟩,aa ⟨d.u.toArray⟩,aa ⟨d.v.toArray⟩,ad p d.bX.length c'] 184)=c9 at uS qj uT⊢;obtain⟨⟨aQ,aN,aJ,c3,bF,c5,bZ,b',bU,bg⟩,_⟩:=ra uS.out;obtain⟨xs,hx,Im⟩:=qj.out.own;have uU:=aq (And.intro hx Im);have tz:=aq qj.out.aX;have agK:af (qg (S.data.toList.drop (E+1)).length (S.data.toList.drop (E+1)) (E+1) (acc++[(A,d)])=(l,0,0)):=by show _=_;have aC:qg (r.drop (n+1)).length (r.drop (n+1)) (o+n+1) (acc++[(o+k,d)])=(l,0,0):=wM.out;rw[←Ii.out,si,cy.out,show o+(n+1)=E+1 by have:=bl.out;omega,show o+n+1=E+1 by have:=bl.out;omega] at aC;exact aC
        have agL:af (∃f,zn f (S.data.toList.drop (E+1))=true):=⟨_,by
         have aC:=Fx.out.2.2.2.2;rw[oT.out.2,←Ii.out,si,show o+(n+1)=E+1 by have:=bl.out;omega] at aC;exact aC⟩
        have QV:acc.length+1≤E+1:=(by omega);have avM:E+1≤1000001:=(by omega);clear wM qj hx Im uS;go_wp2_with (at_builtin;refine uO _ rfl _ _ _ rfl w.heap.size 184 i0 (.agg #[I 0,I 0,I 0,U false,aa ⟨#[]⟩,aa ⟨#[]⟩,aa ⟨#[]⟩,aa ⟨#[]⟩,aa ⟨#[]⟩,J 0]) 10 136 Tryz.underlying179 b8.out.1 b8.out.2.1 b8.out.2.2.1 b8.out.2.2.2 rfl (by omega) u6 acc.length xs (by rfl) (uU.out.1.alloc _) (aj c9.heap.size 0) 1 1 [I (A:Int),I d.k,I d.n,U d.on,aa ⟨d.t.toArray⟩,aa ⟨d.x.toArray⟩,aa ⟨d.y.toArray⟩,aa ⟨d.u.toArray⟩,aa ⟨d.v.toArray⟩,ad p d.bX.length c'] (by rfl) rfl (j8 (fJ c9 _)) (by simp[Value.oneCell']) (by unfold maxLen;omega) (by omega) (by have:=tz.out.size;simp;omega) ?_;intro v' w' fR hL nF;skip);have agM:=aq (wJ.push (x:=(A,d)) (c:=c') uU.out.1 uU.out.2 tz.out uT.out hL fR);clear fR hL nF;go_round<;>first|exact⟨E+1,acc++[(A,d)],by omega,by simp;omega,by go_num,⟨agK.out,agL.out⟩,agM.out⟩|(simp[intOf]<;>omega)
      ·exfalso;have av:=Fx.out.2.1;have az:=cQ.out;have aC:=bl.out;have bt:=Fx.out.2.2.2.1;have cr:=oT.out.2;omega
    ·have bl:af (l=acc):=(by have aC:=wM.out;rw[mU (by rw[cb];omega)] at aC;have bt:(acc,0,0)=(l,0,0):=aC;injection bt with bt;exact bt.symm);obtain rfl:=bl.out;have gU:¬((o:Int)<(S.size:Int)):=(by omega);go_wp2_with fail;go_ret3;exact⟨_,rfl,bT.out⟩
end pk
namespace ef
abbrev b3:=Int×Int
structure dm where
 k:Int
 a:b3
 b:b3
 c:b3
 r:Int
 l:List (List b3)
deriving DecidableEq
def iz:dm:=⟨0,(0,0),(0,0),(0,0),0,[]⟩
inductive bk where
 |nil
 |cons (add:Bool) (b:dm) (sub:bk) (rest:bk)
deriving DecidableEq
structure eg where
 b:dm
 p:bk
deriving DecidableEq
def W2:eg:=⟨iz,.nil⟩
namespace bk
def len:bk→Nat
 |nil=>0
 |cons _ _ _ r=>r.len+1
def count:bk→Nat
 |nil=>0
 |cons _ _ s r=>s.count+r.count+1
def append:bk→bk→bk
 |nil,q=>q
 |cons a b s r,q=>cons a b s (r.append q)
def map(f:dm→dm):bk→bk
 |nil=>nil
 |cons a b s r=>cons a (f b) (s.map f) (r.map f)
def one(a:Bool)(s:eg):bk:=cons a s.b s.p nil
end bk
def gF(p:b3):Bool:=decide (-536870912≤p.1)&&(decide (p.1≤536870912)&&(decide (-536870912≤p.2)&&decide (p.2≤536870912)))
def wN(r:Int):Bool:=decide (1≤r)&&decide (r≤536870912)
def z2:b3:=(0,0)
def pQ(b:dm)(n:Nat):Bool:=
 if (b.k≠2∧0<b.l.length)∨(b.k≠6∧0<n) then false
 else if b.k=1 then decide (b.b=z2)&&decide (b.c=z2)
 else if b.k=3∨b.k=4 then decide (b.c=z2)
 else if b.k=2∨b.k=6 then decide (b.a=z2)&&(decide (b.b=z2)&&(decide (b.c=z2)&&decide (b.r=0)))
 else true
def C2(l:List (List b3)):Bool:=decide ((l.map List.length).sum≤1000)&&l.all fun c=>c.all gF
def pR(p q:b3):Int:=(p.1-q.1) *(p.1-q.1)+(p.2-q.2) *(p.2-q.2)
def Io(c a e:b3):Bool:=decide (pR a c≠0)&&decide (pR a c=pR e c)
def iG(b:dm):Bool:=
 if b.k=1 then gF b.a&&wN b.r
 else if b.k=2 then C2 b.l
 else if b.k=3 then gF b.a&&(gF b.b&&wN b.r)
 else if b.k=4 then gF b.a&&(gF b.b&&(wN b.r&&decide (b.a≠b.b)))
 else if b.k=5 then gF b.a&&(gF b.b&&(gF b.c&&(wN b.r&&Io b.c b.a b.b)))
 else false
def ji:bk→Nat→Int→Option Int
 |.nil,_,left=>some left
 |.cons _ b s r,f,left=>
  if left<1∨pQ b s.len=false then none
  else if b.k=6 then (if 8≤f then none else match ji s (f+1) (left-1) with
   |none=>none
   |some m=>ji r f m)
  else if iG b=true then ji r f (left-1) else none
def okV(s:eg):Bool:=(ji (.one true s) 0 1000).isSome
structure gN where
 bB:Bool
 bW:Bool
 q:Int
 fj:b3
deriving DecidableEq
def tA:gN:=⟨false,false,0,(0,0)⟩
def flip(c:Bool)(v:Int):Int:=if c then -v else v
def MH(q:Int)(p:b3):b3:=if q%4=1 then (-p.2,p.1) else if q%4=2 then (-p.1,-p.2) else if q%4=3 then (p.2,-p.1) else p
def iA(t:gN)(p:b3):b3:=((MH t.q (flip t.bB p.1,flip t.bW p.2)).1+t.fj.1,(MH t.q (flip t.bB p.1,flip t.bW p.2)).2+t.fj.2)
def wO(t:gN)(b:dm):dm:=
 if b.k=1 then {iz with k:=1,r:=b.r,a:=iA t b.a}
 else if b.k=3∨b.k=4 then {iz with k:=b.k,r:=b.r,a:=iA t b.a,b:=iA t b.b}
 else if b.k=5 then {iz with k:=5,r:=b.r,a:=(if t.bB≠t.bW then iA t b.b else iA t b.a),b:=(if t.bB≠t.bW then iA t b.a else iA t b.b),c:=iA t b.c}
 else if b.k=2 then {iz with k:=2,r:=b.r,l:=b.l.map fun c=>c.map (iA t)}
 else {iz with k:=b.k,r:=b.r}
def oU(t:gN):bk→bk
 |.nil=>.nil
 |.cons a b s r=>.cons a (wO t b) (if b.k=6 then oU t s else .nil) (oU t r)
def nJ(t:gN)(s:eg):eg:=⟨wO t s.b,if s.b.k=6 then oU t s.p else .nil⟩
def Be(t:gN)(s:eg):Option eg:=if okV s=true∧okV (nJ t s)=true then some (nJ t s) else none
theorem bk.tB(p q:bk):(p.append q).len=p.len+q.len:=by
 induction p with
 |nil=>simp[append,len]
 |cons a b s r _ cO=>simp[append,len,cO];omega
theorem bk.append_nil(p:bk):p.append .nil=p:=by
 induction p with
 |nil=>rfl
 |cons a b s r _ cO=>simp[append,cO]
theorem bk.append_assoc(p q r:bk):(p.append q).append r=p.append (q.append r):=by
 induction p with
 |nil=>rfl
 |cons a b s t _ cO=>simp[append,cO]
theorem bk.count_append(p q:bk):(p.append q).count=p.count+q.count:=by
 induction p with
 |nil=>simp[append,count]
 |cons a b s r _ cO=>simp[append,count,cO];omega
theorem MI(t:gN)(p:bk):(oU t p).len=p.len:=by
 induction p with
 |nil=>rfl
 |cons a b s r _ cO=>simp[oU,bk.len,cO]
theorem agN{p:bk}:∀{f:Nat} {n m:Int},ji p f n=some m→m≤n∧n-m=p.count:=by
 induction p with
 |nil=>intro f n m h;simp only[ji,n7] at h;subst h;simp[bk.count]
 |cons a b s r QW Ip=>
  intro f n m h;unfold ji at h;split at h
  ·cases h
  ·rename_i aS
   have ax:pQ b s.len=true:=by
    cases hx:pQ b s.len
    ·exact absurd (.inr hx) aS
    ·rfl
   split at h
   ·split at h
    ·cases h
    ·split at h
     ·cases h
     ·rename_i k ay;have av:=QW ay;have az:=Ip h;simp only[bk.count];omega
   ·rename_i c4;split at h
    ·have az:=Ip h
     have hs:s.len=0:=by
      rcases Fl s.len with e|e
      ·exact e
      ·unfold pQ at ax;rw[bb (.inr ⟨c4,e⟩)] at ax;cases ax
     have hc:s.count=0:=by
      cases s with
      |nil=>rfl
      |cons _ _ _ _=>simp[bk.len] at hs
     simp only[bk.count,hc];omega
    ·cases h
end ef
namespace dd
open Go.RowKit ef
abbrev jT:TypeId:=71
abbrev kW:TypeId:=78
abbrev eP:TypeId:=80
abbrev dB:TypeId:=75
abbrev fg:Value:=J 0
structure aP(S:afp)(w w':aeo):Prop where
 os:w'.os=w.os
 tape:w'.tape=w.tape
 output:w'.output=w.output
 size:w.heap.size≤w'.heap.size
 block:∀k,S k→k<w.heap.size→w'.heap[k]?=w.heap[k]?
theorem aP.refl(S:afp)(w:aeo):aP S w w:=⟨rfl,rfl,rfl,bx _,fun _ _ _=>rfl⟩
theorem aP.trans{S:afp}{a b c:aeo}(h:aP S a b)(g:aP S b c):aP S a c:=⟨g.os.trans h.os,g.tape.trans h.tape,g.output.trans h.output,dx h.size g.size,fun k ay aA=>(g.block k ay (km aA h.size)).trans (h.block k ay aA)⟩
variable{S:afp}{w w':aeo}
theorem aP.dW(h:ao w w w'):aP S w w':=⟨h.os,h.tape,h.output,h.size,fun k _ aA=>h.block k aA⟩
theorem aP.mono{R:afp}(h:aP S w w')(hR:∀k,k<w.heap.size→R k→S k):aP R w w':=⟨h.os,h.tape,h.output,h.size,fun k ay aA=>h.block k (hR k aA ay) aA⟩
theorem aP.below(B:Nat)(h:aP S w w')(bK:B≤w.heap.size)(hS:∀k,k<B→S k):Below B w w':=⟨h.os,h.tape,h.output,h.size,fun k ay=>h.block k (hS k ay) (km ay bK)⟩
theorem aP.get(h:aP S w w'){k:Nat}{o:Obj}(ay:S k)(bm:w.heap[k]?=some o):w'.heap[k]?=some o:=(h.block k ay (Array.getElem?_eq_some_iff.1 bm).1).trans bm
theorem aP.grown{row:Option Nat}(h:w.grownBy w' row)(hr:∀k,row=some k→¬S k):aP S w w':=⟨h.os,h.tape,h.output,h.size,fun k ay aA=>h.block k aA fun e=>hr k e.symm ay⟩
theorem aP.set{a:Addr}(h:¬S a.block)(u:ada):aP S w (w.setCell a u):=⟨rfl,rfl,rfl,by simp[World.setCell],fun k ay _=>tn _ _ _ _ fun e=>h (e ▸ ay)⟩
theorem aP.alloc(S:afp)(w:aeo)(o:Obj):aP S w (w.alloc o):=.dW ((Below.refl _ _).alloc (bx _) _)
abbrev n9:Nat:=1000000000
def h4(S:afp)(w:aeo)(p:Ja)(l:List b3):Prop:=l.length≤n9∧(0<l.length→∃(b o:Nat) (cs:ajv),p=some ⟨b,o,none⟩∧S b∧an w b cs jT∧∀i (hi:i<l.length),cs[o+i *2]?=some (I l[i].1)∧cs[o+i *2+1]?=some (I l[i].2))
def iB(S:afp)(w:aeo)(p:Ja)(l:List (List b3)):Prop:=l.length≤n9∧(0<l.length→∃(b o:Nat) (cs:ajv),p=some ⟨b,o,none⟩∧S b∧an w b cs kW∧∀i (hi:i<l.length),∃q c,cs[o+i]?=some (.slice q l[i].length c)∧l[i].length≤c∧h4 S w q l[i])
abbrev lF(b:dm)(jj bQ:ada):List Value:=[I b.k,I b.a.1,I b.a.2,I b.b.1,I b.b.2,I b.c.1,I b.c.2,I b.r,jj,bQ]
abbrev Fz(b:dm)(jj bQ:ada):Array Value:= #[I b.k,I b.a.1,I b.a.2,I b.b.1,I b.b.2,I b.c.1,I b.c.2,I b.r,jj,bQ]
abbrev jU(b:dm)(jj bQ:ada):Value:=.agg (Fz b jj bQ)
def ds(S:afp)(w:aeo):bk→aev→Prop
 |.nil,_=>True
 | .cons a b s r,xs=>(∃(pl:Ja) (cl:Nat) (pp:Ja) (cp:Nat),xs.take 11=U a::lF b (ad pl b.l.length cl) (ad pp s.len cp)∧b.l.length≤cl∧s.len≤cp∧iB S w pl b.l∧s.len≤n9∧
  (0<s.len→∃(k o:Nat) (cs:ajv),pp=some ⟨k,o,none⟩∧S k∧an w k cs eP∧ds S w s (cs.toList.drop o)))∧ds S w r (xs.drop 11)
def ij(S:afp)(w:aeo)(p:Ja)(s:bk):Prop:=s.len≤n9∧(0<s.len→∃(k o:Nat) (cs:ajv),p=some ⟨k,o,none⟩∧S k∧an w k cs eP∧ds S w s (cs.toList.drop o))
structure dE(S:afp)(w:aeo)(pl:Ja)(cl:Nat)(pp:Ja)(cp:Nat)(s:eg):Prop where
 l:iB S w pl s.b.l
 p:ij S w pp s.p
 cl:s.b.l.length≤cl
 cp:s.p.len≤cp
theorem h4.nil(S:afp)(w:aeo)(p:Ja):h4 S w p []:=⟨dO _,fun h=>absurd h (mA _)⟩
theorem iB.nil(S:afp)(w:aeo)(p:Ja):iB S w p []:=⟨dO _,fun h=>absurd h (mA _)⟩
theorem ij.nil(S:afp)(w:aeo)(p:Ja):ij S w p .nil:=⟨dO _,fun h=>absurd h (mA _)⟩
theorem dE.bare(S:afp)(w:aeo)(p q:Ja)(b:dm)(cl cp:Nat)(ax:b.l=[]):dE S w p cl q cp ⟨b,.nil⟩:=⟨by rw[show (⟨b,.nil⟩:eg).b.l=[] from ax];exact .nil _ _ _,.nil _ _ _,by rw[show (⟨b,.nil⟩:eg).b.l=[] from ax];exact dO _,dO _⟩
theorem lt_of_heap{k:Nat}{o:Obj}(h:w.heap[k]?=some o):k<w.heap.size:=(Array.getElem?_eq_some_iff.1 h).1
variable{a:Bool}{b:dm}{s r:bk}{xs:aev}
theorem ds.head(h:ds S w (.cons a b s r) xs):
  ∃(pl:Ja) (cl:Nat) (pp:Ja) (cp:Nat),xs.take 11=U a::lF b (ad pl b.l.length cl) (ad pp s.len cp)∧dE S w pl cl pp cp ⟨b,s⟩:=by
 obtain⟨⟨pl,cl,pp,cp,av,az,aC,bt,cr,c4⟩,_⟩:=h;exact⟨pl,cl,pp,cp,av,bt,⟨cr,c4⟩,az,aC⟩
theorem ds.tail(h:ds S w (.cons a b s r) xs):ds S w r (xs.drop 11):=h.2
theorem ds.mk{pl:Ja}{cl:Nat}{pp:Ja}{cp:Nat}(h:xs.take 11=U a::lF b (ad pl b.l.length cl) (ad pp s.len cp))(hs:dE S w pl cl pp cp ⟨b,s⟩)(hr:ds S w r (xs.drop 11)):ds S w (.cons a b s r) xs:=
 ⟨⟨pl,cl,pp,cp,h,hs.cl,hs.cp,hs.l,hs.p.1,hs.p.2⟩,hr⟩
section
variable{S R:afp}{w w':aeo}
variable{p:Ja}{l:List b3}
theorem h4.keep(h:h4 S w p l)(ay:aP S w w'):h4 S w' p l:=by refine⟨h.1,fun aA=>?_⟩;obtain⟨b,o,cs,rfl,bK,aK,hc⟩:=h.2 aA;exact⟨b,o,cs,rfl,bK,ay.get bK aK,hc⟩
theorem h4.mono(h:h4 S w p l)(ay:∀k,k<w.heap.size→S k→R k):h4 R w p l:=by refine⟨h.1,fun aA=>?_⟩;obtain⟨b,o,cs,rfl,bK,aK,hc⟩:=h.2 aA;exact⟨b,o,cs,rfl,ay _ (lt_of_heap aK) bK,aK,hc⟩
theorem iB.keep{p:Ja}{l:List (List b3)}(h:iB S w p l)(ay:aP S w w'):iB S w' p l:=by refine⟨h.1,fun aA=>?_⟩;obtain⟨b,o,cs,rfl,bK,aK,hc⟩:=h.2 aA;refine⟨b,o,cs,rfl,bK,ay.get bK aK,fun i hi=>?_⟩;obtain⟨q,c,aR,qe,bm⟩:=hc i hi;exact⟨q,c,aR,qe,bm.keep ay⟩
theorem iB.mono{p:Ja}{l:List (List b3)}(h:iB S w p l)(ay:∀k,k<w.heap.size→S k→R k):iB R w p l:=by refine⟨h.1,fun aA=>?_⟩;obtain⟨b,o,cs,rfl,bK,aK,hc⟩:=h.2 aA;refine⟨b,o,cs,rfl,ay _ (lt_of_heap aK) bK,aK,fun i hi=>?_⟩;obtain⟨q,c,aR,qe,bm⟩:=hc i hi;exact⟨q,c,aR,qe,bm.mono ay⟩
theorem ds.keep(ay:aP S w w'):∀{s:bk} {xs:aev},ds S w s xs→ds S w' s xs
 |.nil,_,_=>trivial
 |.cons a b s r,xs,h=>by obtain⟨⟨pl,cl,pp,cp,av,az,aC,bt,ez,cr⟩,c4⟩:=h;refine⟨⟨pl,cl,pp,cp,av,az,aC,bt.keep ay,ez,fun aA=>?_⟩,ds.keep ay c4⟩;obtain⟨k,o,cs,e,hS,aK,hp⟩:=cr aA;exact⟨k,o,cs,e,hS,ay.get hS aK,ds.keep ay hp⟩
theorem ds.mono(ay:∀k,k<w.heap.size→S k→R k):∀{s:bk} {xs:aev},ds S w s xs→ds R w s xs
 |.nil,_,_=>trivial
 |.cons a b s r,xs,h=>by obtain⟨⟨pl,cl,pp,cp,av,az,aC,bt,ez,cr⟩,c4⟩:=h;refine⟨⟨pl,cl,pp,cp,av,az,aC,bt.mono ay,ez,fun aA=>?_⟩,ds.mono ay c4⟩;obtain⟨k,o,cs,e,hS,aK,hp⟩:=cr aA;exact⟨k,o,cs,e,ay _ (lt_of_heap aK) hS,aK,ds.mono ay hp⟩
theorem ij.keep{p:Ja}{s:bk}(h:ij S w p s)(ay:aP S w w'):ij S w' p s:=by refine⟨h.1,fun aA=>?_⟩;obtain⟨k,o,cs,e,hS,aK,hp⟩:=h.2 aA;exact⟨k,o,cs,e,hS,ay.get hS aK,ds.keep ay hp⟩
theorem ij.mono{p:Ja}{s:bk}(h:ij S w p s)(ay:∀k,k<w.heap.size→S k→R k):ij R w p s:=by refine⟨h.1,fun aA=>?_⟩;obtain⟨k,o,cs,e,hS,aK,hp⟩:=h.2 aA;exact⟨k,o,cs,e,ay _ (lt_of_heap aK) hS,aK,ds.mono ay hp⟩
theorem dE.keep{pl pp:Ja}{cl cp:Nat}{s:eg}(h:dE S w pl cl pp cp s)(ay:aP S w w'):dE S w' pl cl pp cp s:=⟨h.l.keep ay,h.p.keep ay,h.cl,h.cp⟩
theorem dE.mono{pl pp:Ja}{cl cp:Nat}{s:eg}(h:dE S w pl cl pp cp s)(ay:∀k,k<w.heap.size→S k→R k):dE R w pl cl pp cp s:=⟨h.l.mono ay,h.p.mono ay,h.cl,h.cp⟩
theorem dE.below{pl pp:Ja}{cl cp:Nat}{s:eg}(h:dE S w pl cl pp cp s)(ax:ao w w w'):dE S w' pl cl pp cp s:=h.keep (.dW ax)
theorem iB.below{l:List (List b3)}(h:iB S w p l)(ax:ao w w w'):iB S w' p l:=h.keep (.dW ax)
theorem h4.below(h:h4 S w p l)(ax:ao w w w'):h4 S w' p l:=h.keep (.dW ax)
theorem ij.below{s:bk}(h:ij S w p s)(ax:ao w w w'):ij S w' p s:=h.keep (.dW ax)
theorem ds.below{s:bk}{xs:aev}(h:ds S w s xs)(ax:ao w w w'):ds S w' s xs:=h.keep (.dW ax)
theorem dE.lt{pl pp:Ja}{cl cp:Nat}{s:eg}(h:dE S w pl cl pp cp s):dE (fun k=>S k∧k<w.heap.size) w pl cl pp cp s:=h.mono fun _ av az=>⟨az,av⟩
end
theorem ds.append{S:afp}{w:aeo}:∀{s:bk} {xs fy:aev} {t:bk},ds S w s xs→xs.length=s.len *11→ds S w t fy→ds S w (s.append t) (xs++fy)
 |.nil,xs,fy,t,_,aA,h=>by obtain rfl:xs=[]:=mT (by simpa[bk.len] using aA);exact h
 |.cons a b s r,xs,fy,t,h,aA,g=>by obtain⟨⟨pl,cl,pp,cp,av,az⟩,c4⟩:=h;have FA:11≤xs.length:=(by rw[aA];simp only[bk.len];omega);refine⟨⟨pl,cl,pp,cp,by rw[WT FA];exact av,az⟩,?_⟩;rw[WU FA];exact ds.append c4 (by simp only[fH,aA,bk.len];omega) g
theorem W3{cs:ajv}{n:Nat}{v0 v1 v2 v3 v4 v5 v6 cj cD v9 v10:ada}(h:(cs.toList.drop n).take 11=[v0,v1,v2,v3,v4,v5,v6,cj,cD,v9,v10]):
  cs[n]?=some v0∧cs[n+1]?=some v1∧cs[n+2]?=some v2∧cs[n+3]?=some v3∧cs[n+4]?=some v4∧cs[n+5]?=some v5∧cs[n+6]?=some v6∧cs[n+7]?=some cj∧cs[n+8]?=some cD∧cs[n+9]?=some v9∧cs[n+10]?=some v10:=by
 have key:∀j,j<11→cs[n+j]?=[v0,v1,v2,v3,v4,v5,v6,cj,cD,v9,v10][j]?:=by intro j cd;rw[←h,sg,bb cd,yg];simp
 exact⟨key 0 (by decide),key 1 (by decide),key 2 (by decide),key 3 (by decide),key 4 (by decide),key 5 (by decide),key 6 (by decide),key 7 (by decide),key 8 (by decide),key 9 (by decide),key 10 (by decide)⟩
end dd
namespace dd
open Go.RowKit ef
abbrev lG(p:b3):Value:=.agg #[I p.1,I p.2]
abbrev eU(p:b3):Obj:=.cells #[I p.1,I p.2] jT
theorem dD{a b:Bool}(h:a=b):Ending.returned (U a)=ab (U b):=by rw[h]
def MJ(k:Int)(a b c:b3)(r:Int)(nl hE:Nat):Bool:=
 if (k≠2∧0<nl)∨(k≠6∧0<hE) then false
 else if k=1 then decide (b=z2)&&decide (c=z2)
 else if k=3∨k=4 then decide (c=z2)
 else if k=2∨k=6 then decide (a=z2)&&(decide (b=z2)&&(decide (c=z2)&&decide (r=0)))
 else true
theorem zr(p:b3)(w:aeo):Calls Tryz.prog 245 #[lG p] w fun e w'=>e=ab (U (gF p))∧w.alloc (eU p)=w':=by
 obtain⟨x,y⟩:=p;go_enter Tryz.func245,Tryz.ntmps245;go_wp2_with fail
 all_goals
  go_ret;refine⟨dD (Bool.eq_iff_iff.2 ⟨fun h=>?_,fun h=>?_⟩),rfl⟩<;>simp only[gF,jh,jR,wL] at h⊢<;>omega
theorem MK(r:Int)(w:aeo):Calls Tryz.prog 246 #[I r] w fun e w'=>e=ab (U (wN r))∧w=w':=by
 go_enter Tryz.func246,Tryz.ntmps246;go_wp2_with fail
 all_goals
  go_ret;refine⟨dD (Bool.eq_iff_iff.2 ⟨fun h=>?_,fun h=>?_⟩),rfl⟩<;>simp only[wN,jh,jR,wL] at h⊢<;>omega
theorem agO(k a1 aZ a8 bh cx bu r:Int)(pl pp:Ja)(nl hE cl cp:Nat)(w:aeo):
  Calls Tryz.prog 244 #[.agg #[I k,I a1,I aZ,I a8,I bh,I cx,I bu,I r,ad pl nl cl,ad pp hE cp]] w fun e w'=>e=ab (U (MJ k (a1,aZ) (a8,bh) (cx,bu) r nl hE))∧ao w w w':=by
 go_enter Tryz.func244,Tryz.ntmps244;go_wp2_with fail
 all_goals
  go_ret;refine⟨dD ?_,((Below.refl _ _).alloc (bx _) _).alloc (by simp) _⟩;first|(simp[MJ,z2, *];done)|grind [MJ,z2]
def yj:List (List b3)→Int→Bool
 |[],_=>true
 |c::l,left=>if left<(c.length:Int) then false else c.all gF&&yj l (left-c.length)
theorem agP(l:List (List b3)):∀n:Int,0≤n→yj l n=(decide (((l.map List.length).sum:Int)≤n)&&l.all fun c=>c.all gF):=by
 induction l with
 |nil=>intro n hn;simp[yj,hn]
 |cons c l cO=>
  intro n hn;unfold yj;by_cases h:n<(c.length:Int)
  ·rw[bb h];have az:¬((((c::l).map List.length).sum:Nat):Int)≤n:=(by simp only[yh,List.sum_cons];omega);rw[ey az,CN]
  ·rw[aW h,cO _ (by omega)];have az:decide ((((c::l).map List.length).sum:Nat)≤n)=decide ((((l.map List.length).sum:Nat):Int)≤n-c.length):=(by apply decide_eq_decide.2;simp only[yh,List.sum_cons];omega);rw[az,List.all_cons];cases c.all gF<;>simp
theorem agQ(l:List (List b3)):C2 l=yj l 1000:=by
 rw[agP _ _ (by decide)];unfold C2
 congr 1
 apply decide_eq_decide.2;omega
theorem h4.at{S:afp}{w:aeo}{p:Ja}{l:List b3}(h:h4 S w p l){i:Nat}(hi:i<l.length){q:b3}(aR:l[i]=q):∃b o,p=some ⟨b,o,none⟩∧ak w b (o+i *2) (I q.1)∧ak w b (o+i *2+1) (I q.2):=by obtain⟨b,o,cs,rfl,_,aK,hc⟩:=h.2 (by omega);obtain⟨av,az⟩:=hc i hi;rw[aR] at av az;exact⟨b,o,rfl,by simp[World.cell?,aK,av],by simp[World.cell?,aK,az]⟩
theorem iB.at{S:afp}{w:aeo}{p:Ja}{l:List (List b3)}(h:iB S w p l){i:Nat}(hi:i<l.length){r:List b3}(hr:l[i]=r):∃b o q c,p=some ⟨b,o,none⟩∧ak w b (o+i) (ad q r.length c)∧r.length≤c∧h4 S w q r:=by obtain⟨b,o,cs,rfl,_,aK,hc⟩:=h.2 (by omega);obtain⟨q,c,av,az,aC⟩:=hc i hi;rw[hr] at av az aC;exact⟨b,o,q,c,rfl,by simp[World.cell?,aK,av],az,aC⟩
theorem agR(S:afp)(p:Ja)(l:List (List b3))(n c:Nat)(hn:n=l.length)(w:aeo)(H:af (iB S w p l))(b:Bool)(ax:af (C2 l=b)):
  Calls Tryz.prog 247 #[ad p n c] w fun e w'=>e=ab (U b)∧ao w w w':=by
 have oa:n≤1000000000:=by rw[hn];exact H.out.1
 have bd:=aq hn;have l1:af (yj (l.drop 0) 1000=b):=by show _=_;rw[←ax.out,agQ];rfl
 clear ax hn;go_enter Tryz.func247,Tryz.ntmps247;go_wp2_with fail
 go_loopw [3,10] (fun Iq i wr=>∃(j:Nat) (left:Int) (aM:aeo),aM=wr∧j≤n∧0≤left∧left≤1000∧af (yj (l.drop j) left=b)∧Iq=I left∧i=I j∧af (ao w w aM)) (fun _ i _=>n -(intOf i).toNat)
 case atStart=>exact⟨0,1000,_,rfl,dO _,by decide,by decide,l1.out,rfl,rfl,Below.refl _ _⟩
 case round=>
 obtain⟨j,left,aM,rfl,cd,Ir,qk,cG,rfl,rfl,aI⟩:=hrel;by_cases bR:j<n
 ·have fE:j<l.length:=(by rw[←bd.out];exact bR);have gU:(j:Int)<(n:Int):=(by omega);obtain⟨r,hr⟩:=ar (l[j]);obtain⟨fz,o,q,na,rfl,qm,_,l2⟩:=(H.out.below aI.out).at fE hr;have bT:=aq l2;have oR:r.length≤1000000000:=l2.1;have hM:af ((if left<(r.length:Int) then false else r.all gF&&yj (l.drop (j+1)) (left-r.length))=b):=(by show _=_;rw[←cG.out,lD fE,hr];rfl);obtain⟨m,hm⟩:=ar r.length;have bH:=aq hm;rw[hm] at qm hM oR;clear l2 hr cG hm;by_cases hle:left<(m:Int)
  ·have aO:af (false=b):=(by show _=_;rw[←hM.out,bb hle]);go_wp2_with fail;go_ret;exact⟨dD aO.out,aI.out⟩
  ·have tC:af ((r.all gF&&yj (l.drop (j+1)) (left-m))=b):=(by show _=_;rw[←hM.out,aW hle]);clear hM;have W4:(m:Int)≤left:=(by omega);have hw:ae (left -(m:Int))=left -(m:Int):=cY _ (by omega);go_wp2_with fail;have ee:=aq (aI.out)
   go_loopw [24] (fun i dw=>∃(k:Nat) (cE:aeo),cE=dw∧k≤m∧af ((r.drop k).all gF=r.all gF)∧i=I k∧af (ao aM aM cE)) (fun i _=>m -(intOf i).toNat)
   case atStart=>exact⟨0,_,rfl,dO _,rfl,rfl,Below.refl _ _⟩
   case round=>
   obtain⟨k,cE,rfl,ay,cQ,rfl,aV⟩:=hrel;by_cases j':k<m
   ·have pS:k<r.length:=(by rw[bH.out];exact j');have ML:(k:Int)<(m:Int):=(by omega);obtain⟨z,cz⟩:=ar (r[k]);obtain⟨nb,lH,rfl,s0,s1⟩:=(bT.out.below aV.out).at pS cz;obtain⟨gv,gw⟩:=z;have kC:af ((r.drop k).all gF=(gF (gv,gw)&&(r.drop (k+1)).all gF)):=(by show _=_;rw[lD pS,cz];rfl);clear cz;obtain⟨f,hf⟩:=ar (gF (gv,gw));have C3:=aq hf;clear hf;go_wp2_with fail;refine (zr (gv,gw) _).mono ?_;rintro e cc ⟨rfl,rfl⟩;have eQ:af (ao aM aM ((cE.alloc (eU (gv,gw))).alloc (eU (gv,gw)))):=(aV.out.alloc aV.out.size _).alloc (by have:=aV.out.size;simp;omega) _;rw[C3.out];generalize (cE.alloc (eU (gv,gw))).alloc (eU (gv,gw))=b9 at eQ⊢;cases f with
    |true=>
     have kq:af ((r.drop (k+1)).all gF=r.all gF):=(by show _=_;rw[←cQ.out,kC.out,C3.out,H0]);go_wp2_with fail;go_round<;>first|exact⟨k+1,_,rfl,by omega,kq.out,by go_num,eQ.out⟩|(simp[intOf]<;>omega)
    |false=>
     have aO:af (false=b):=(by show _=_;rw[←tC.out,←cQ.out,kC.out,C3.out,CN,CN]);go_wp2_with fail;go_ret;exact⟨dD aO.out,aI.out.trans (eQ.out.mono aI.out.size)⟩
   ·have wF:k=m:=(by omega);have a':af (yj (l.drop (j+1)) (left-m)=b):=(by show _=_;have av:=cQ.out;rw[mU (by have:=bH.out;omega)] at av;rw[←tC.out,←av];rfl);subst wF;go_wp2_with fail;go_round<;>first|exact⟨j+1,left-k,_,rfl,by omega,by omega,by omega,a'.out,by go_num,by go_num,aI.out.trans (aV.out.mono aI.out.size)⟩|(simp[intOf]<;>omega)
 ·have iH:j=n:=(by omega);have dr:af (true=b):=(by show _=_;rw[←cG.out,mU (by rw[←bd.out];omega)];rfl);subst iH;go_wp2_with fail;go_ret;exact⟨dD dr.out,aI.out⟩
end dd
namespace ef
structure ck where
 aD:Int
 aE:Int
 aL:Int
 aH:Int
deriving DecidableEq
def eh:ck:=⟨0,0,0,0⟩
def tD(v:Int):Bool:=decide (-536870912≤v)&&decide (v≤536870912)
def okB(b:ck):Bool:=decide (b.aD≤b.aL)&&(decide (b.aE≤b.aH)&&(tD b.aD&&(tD b.aE&&(tD b.aL&&tD b.aH))))
def pq(b:ck):List b3:=[(b.aD,b.aE),(b.aL,b.aE),(b.aD,b.aH),(b.aL,b.aH)]
def splitB(b:ck):List ck:=
 let x:=b.aD+(b.aL-b.aD)/ 2;let y:=b.aE+(b.aH-b.aE)/ 2
 [⟨b.aD,b.aE,x,y⟩,⟨x,b.aE,b.aL,y⟩,⟨b.aD,y,x,b.aH⟩,⟨x,y,b.aL,b.aH⟩]
def pr(v lo hi:Int):Int:=if v<lo then lo-v else if hi<v then v-hi else 0
def zs(v lo hi:Int):Int:=max (max (max (v-lo) (lo-v)) (v-hi)) (hi-v)
def Is(b:ck)(p:b3):Int:=pr p.1 b.aD b.aL *pr p.1 b.aD b.aL+pr p.2 b.aE b.aH *pr p.2 b.aE b.aH
def It(b:ck)(p:b3):Int:=zs p.1 b.aD b.aL *zs p.1 b.aD b.aL+zs p.2 b.aE b.aH *zs p.2 b.aE b.aH
def eR(o a b:b3):Int:=(a.1-o.1) *(b.2-o.2) -(a.2-o.2) *(b.1-o.1)
def MM(o a b:b3):Int:=(b.1-o.1) *(a.1-o.1)+(b.2-o.2) *(a.2-o.2)
def zt(b:ck)(p q:b3):Bool:=
 if max p.1 q.1<b.aD∨b.aL<min p.1 q.1∨max p.2 q.2<b.aE∨b.aH<min p.2 q.2 then false
 else !((pq b).all fun c=>decide (0<eR p q c))&&!((pq b).all fun c=>decide (eR p q c<0))
def sj(b:ck):Bool:=decide (b.aL<b.aD)|| decide (b.aH<b.aE)
def FB(a b:ck):Bool:=sj a ||(sj b ||(decide (a.aL<b.aD)||(decide (b.aL<a.aD)||(decide (a.aH<b.aE)|| decide (b.aH<a.aE)))))
def C4(b:ck)(c:b3)(r:Int):Int:=if r *r<Is b c then 0 else if It b c≤r *r then 2 else 1
def W5(p a c:b3)(r:Int):Bool:=
 if MM a c p≤0 then decide (pR p a≤r *r)
 else if pR c a≤MM a c p then decide (pR p c≤r *r)
 else decide (eR a c p *eR a c p≤r *r *pR c a)
def tm(b:ck)(a c:b3)(r:Int):Int:=
 if ((pq b).all fun p=>W5 p a c r)=true then 2
 else if ((pq b).any fun p=>W5 p a c r)=true∨Is b a≤r *r∨Is b c≤r *r∨zt b a c=true then 1 else 0
def QX(p a c:b3)(h:Int):Int:=if eR a c p *eR a c p≤h *h *pR c a then 0 else if 0<eR a c p then 1 else -1
def QY(p a c:b3):Int:=if MM a c p<0 then -1 else if pR c a<MM a c p then 1 else 0
def agS(p a c:b3)(h:Int):Bool:=decide (QX p a c h=0)&&decide (QY p a c=0)
def agU(b:ck)(a c:b3)(h:Int):Int:=
 if ((pq b).all fun p=>agS p a c h)=true then 2
 else if ((pq b).all fun p=>decide (QX p a c h= -1))=true∨((pq b).all fun p=>decide (QX p a c h=1))=true∨((pq b).all fun p=>decide (QY p a c= -1))=true∨((pq b).all fun p=>decide (QY p a c=1))=true then 0
 else 1
def W6(c a e:b3):Bool:=decide (eR c a e<0)
def W7(d q r:Int):Bool:=decide (q-r *r-d≤0)|| decide ((q-r *r-d) *(q-r *r-d)≤4 *d *(r *r))
def W8(d q r:Int):Bool:=decide (d-q-r *r≤0)|| decide ((d-q-r *r) *(d-q-r *r)≤4 *q *(r *r))
def agV(b:ck)(c a e:b3):Bool:=
 if a=e then true
 else if W6 c a e=true then ((pq b).all fun p=>decide (0≤eR c a p))||((pq b).all fun p=>decide (0≤eR c p e))
 else ((pq b).all fun p=>decide (0≤eR c a p))&&((pq b).all fun p=>decide (0≤eR c p e))
def agW(b:ck)(c a e:b3):Bool:=
 if a=e then false
 else if W6 c a e=true then ((pq b).all fun p=>decide (eR c a p<0))&&((pq b).all fun p=>decide (eR c p e<0))
 else ((pq b).all fun p=>decide (eR c a p<0))||((pq b).all fun p=>decide (eR c p e<0))
def agX(b:ck)(c a e:b3)(r:Int):Int:=
 if C4 b a r=2∨C4 b e r=2 then 2
 else if agV b c a e=true∧W7 (Is b c) (pR a c) r=true∧W8 (It b c) (pR a c) r=true then 2
 else if C4 b a r≠0∨C4 b e r≠0 then 1
 else if agW b c a e=true∨W8 (Is b c) (pR a c) r=false∨W7 (It b c) (pR a c) r=false then 0
 else 1
def kb(c:List b3):List (b3×b3):=c.zip (c.drop 1++c.take 1)
def QZ(b:ck)(l:List (List b3)):Bool:=l.any fun c=>(kb c).any fun e=>zt b e.1 e.2
def Iu(p a e:b3):Bool:=
 if decide (p.2<a.2)=decide (p.2<e.2) then false else if a.2<e.2 then decide (0<eR a e p) else decide (eR a e p<0)
def Q0(p:b3)(l:List (List b3)):Bool:=l.foldl (fun i c=>(kb c).foldl (fun i e=>if Iu p e.1 e.2=true then !i else i) i) false
def Q1(b:ck)(l:List (List b3)):Int:=if QZ b l=true then 1 else if Q0 (b.aD,b.aE) l=true then 2 else 0
def uV(was cls:Int)(add:Bool):Int:=
 if was<0∨2<was∨cls<0∨2<cls then 1
 else if cls=0 then was
 else if cls=2 then (if add=true then 2 else 0)
 else if add=true∧was=2 then 2
 else if add=false∧was=0 then 0
 else 1
def MN(x:ck)(b:dm)(sub:Int):Int:=
 if b.k=1 then C4 x b.a b.r
 else if b.k=2 then Q1 x b.l
 else if b.k=3 then tm x b.a b.b b.r
 else if b.k=4 then agU x b.a b.b b.r
 else if b.k=5 then agX x b.c b.a b.b b.r
 else sub
def FC(x:ck):bk→Int→Int
 |.nil,acc=>acc
 |.cons a b s r,acc=>FC x r (uV acc (MN x b (FC x s 0)) a)
def FD(x:ck)(s:eg):Int:=MN x s.b (FC x s.p 0)
def zu(x:ck)(s:eg):Int:=if okV s=true then FD x s else 0
def Q2:Nat→Int→Int→Int→Int
 |0,lo,_,_=>lo
 |k+1,lo,hi,v=>if lo<hi then (if v≤(lo+hi)/ 2 *((lo+hi)/ 2) then Q2 k lo ((lo+hi)/ 2) v else Q2 k ((lo+hi)/ 2+1) hi v) else lo
def agY(v:Int):Int:=Q2 32 0 2147483648 v
def qn(p q:b3)(r:Int):ck:=⟨max (min p.1 q.1-r) (-536870912),max (min p.2 q.2-r) (-536870912),min (max p.1 q.1+r) 536870912,min (max p.2 q.2+r) 536870912⟩
def uW(o:Option ck)(b:ck):Option ck:=match o with
 |none=>some b
 |some a=>some ⟨min a.aD b.aD,min a.aE b.aE,max a.aL b.aL,max a.aH b.aH⟩
def FE(b:dm)(sub:Option ck→Option ck):Option ck:=
 if b.k=1 then some (qn b.a b.a b.r)
 else if b.k=3∨b.k=4 then some (qn b.a b.b b.r)
 else if b.k=5 then some (qn b.c b.c (b.r+agY (pR b.a b.c)))
 else sub (b.l.foldl (fun o c=>c.foldl (fun o p=>uW o (qn p p 0)) o) none)
def qo:bk→Option ck→Option ck
 |.nil,o=>o
 | .cons a b s r,o=>qo r (if a=true then (match FE b (qo s) with
  |none=>o
  |some x=>uW o x) else o)
def Iv(s:eg):Option ck:=if okV s=true then FE s.b (qo s.p) else none
end ef
