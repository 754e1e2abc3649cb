/- Lemmas. -/
import Derived.Test.YtfldplmgkeiimaaGreatDoorR38
import Derived.Great.Walk
set_option linter.all false
set_option maxRecDepth 100000
set_option maxHeartbeats 12800000
namespace Go.Proofs.YtfldplmgkeiimaaGreatDoor
abbrev AS:=@Array.getD_eq_getD_getElem?
abbrev aeY:=@Array.getElem_mem_toList
namespace dd
open Go.RowKit ef
open pk (lf sz XH XI)
abbrev pg:ByteArray:=⟨#[77,48,50,42]⟩
abbrev gg:ByteArray:=⟨#[77,48,50,42,77,48,50,42]⟩
abbrev eB:ByteArray:=⟨#[37,70,83,76,65,88,50,52,89,50,52,42,37,37,77,79,77,77,42,37,37,65,68,68,49,48,67,44,53,48,42,37,68,49,48,42,88,48,89,48,68,48,51,42,77,48,50,42]⟩
abbrev th:ByteArray:=⟨#[77,52,56,10,77,69,84,82,73,67,10,37,10,77,51,48,10]⟩
abbrev ti:ByteArray:=⟨#[77,52,56,10,77,52,56,10]⟩
abbrev aeZ:List eu:=[(true,⟨rj (0,0) 250000000,.nil⟩)]
theorem ae0:jx pg.data.toList 0=([],0,0):=by decide+kernel
theorem ae1:jx gg.data.toList 0=([],4,4):=by decide+kernel
theorem ae2:jx eB.data.toList 0=([],36,6):=by decide+kernel
theorem P':jx eB.data.toList 1=(aeZ,0,0):=by decide+kernel
theorem ae3:jx (⟨#[]⟩:Ua).data.toList 0=([],0,11):=by decide+kernel
def AT(T:Ua)(aB:Int):Prop:=AD T aB∧∀x∈(jx T.data.toList aB).1,Plain x.2∧sD x.2
variable{aB:Int}
theorem Qa{T:Ua}{i f:Nat}(h:AD T aB)(hf:jx T.data.toList aB=([],i,f)):AT T aB:=⟨h,by rw[hf];exact fun x hx=>absurd hx (by simp)⟩
theorem ar5:AT pg 0:=Qa (HM (by decide) (by decide+kernel) (by decide+kernel)) ae0
theorem ar6:AT gg 0:=Qa (HM (by decide) (by decide+kernel) (by decide+kernel)) ae1
theorem ar7:AT eB 0:=Qa (HM (by decide) (by decide+kernel) (by decide+kernel)) ae2
theorem ar8:AT ⟨#[]⟩ 0:=Qa (HM (by decide) (by decide+kernel) (by decide+kernel)) ae3
theorem V7:AT eB 1:=⟨HM (by decide) (by decide+kernel) (by decide+kernel),by
 rw[P'];intro x hx;rw[List.mem_singleton.1 hx];exact⟨⟨⟨fun c hc=>absurd hc (by simp[rj,iz]),trivial⟩,dO _⟩,⟨by unfold BB rj;decide,trivial⟩⟩⟩
theorem ae4{ls:List ly}(h:∀y∈ls,y.te=false∧AT y.t aB):VA aB ls:=fun y hy=>⟨(h y hy).1,(h y hy).2.1,(h y hy).2.2⟩
def LK(W:aeo)(ar9:ada)(f0 f1 f2 f3:Int):Prop:=∀Z,ao W W Z→Calls Tryz.prog 20 #[ar9] Z fun e w'=>Below Z.heap.size Z w'∧∃eI eM c q n cp,e=ab (.tuple #[.agg #[I eI,I eM,U c,ad q n cp],lU f0 f1 f2 f3])∧(f3=0↔0<n)
section
variable{W:aeo}{cm cq bQ bM cB ch bJ bO ba aB st:Int}{ls:List ly}{pl ew:Ja}{nl cl bn ec:Nat}
theorem LL{a b c d:Int}(hd:d≠0)(hn:nl=ls.length)(H:nY (fun _=>True) W pl ls)(pL:wi ⟨cm,cq,bQ,bM,cB,ch⟩ ls 0 bJ bO ba=true)(ix:∀y∈ls,y.te=false∧AT y.t aB)
  (hr:nA ⟨cm,cq,bQ,bM,cB,ch⟩ aB ls 0 (lV bJ bO ba (bM.toNat *cB.toNat)) (max 0 (min st 100000000))=.error (a,b,c,d)):LK W (.agg #[I cm,I cq,I bQ,I bM,I cB,I ch,ad pl nl cl,ad ew 0 ec,I bJ,I bO,I ba,I aB,I st]) a b c d:=by
 intro Z eY;have h:=PU (fun _=>True) cm cq bQ bM cB ch ls pl nl cl hn ew ec bJ bO ba aB st pL (ae4 ix) Z (aq (H.below eY));rw[hr] at h;exact h.mono fun e w' h=>⟨h.1,_,_,_,_,_,_,h.no,fun e=>absurd e hd,fun e=>absurd e (by decide)⟩
theorem asa{ts:List jr}(hn:nl=ls.length)(H:nY (fun _=>True) W pl ls)(pL:wi ⟨cm,cq,bQ,bM,cB,ch⟩ ls 0 bJ bO ba=true)(ix:∀y∈ls,y.te=false∧AT y.t aB)
  (hr:nA ⟨cm,cq,bQ,bM,cB,ch⟩ aB ls 0 (lV bJ bO ba (bM.toNat *cB.toNat)) (max 0 (min st 100000000))=.ok ts) (bE:0<ts.length):LK W (.agg #[I cm,I cq,I bQ,I bM,I cB,I ch,ad pl nl cl,ad ew 0 ec,I bJ,I bO,I ba,I aB,I st]) 0 0 0 0:=by
 intro Z eY;have h:=PU (fun _=>True) cm cq bQ bM cB ch ls pl nl cl hn ew ec bJ bO ba aB st pL (ae4 ix) Z (aq (H.below eY));rw[hr] at h;exact h.mono fun e w' h=>by obtain⟨q,cp,he,_⟩:=h.yes;exact⟨h.1,_,_,_,_,_,_,he,fun _=>bE,fun _=>rfl⟩
theorem LM(hn:nl=ls.length)(H:nY (fun _=>True) W pl ls)(pL:wi ⟨cm,cq,bQ,bM,cB,ch⟩ ls bn bJ bO ba=false):LK W (.agg #[I cm,I cq,I bQ,I bM,I cB,I ch,ad pl nl cl,ad ew bn ec,I bJ,I bO,I ba,I aB,I st]) 0 0 0 1:=by intro Z eY;exact (ad3 (fun _=>True) cm cq bQ bM cB ch ls pl nl cl hn ew bn ec bJ bO ba aB st false 0 0 0 1 (by decide) pL Z (aq (H.below eY)) (aq fun _=>⟨rfl,rfl,rfl,rfl⟩) (aq fun h=>by cases h)).mono fun e w' h=>⟨h.1,_,_,_,_,_,_,h.no,fun e=>absurd e (by decide),fun e=>absurd e (by decide)⟩
theorem asb{b:Nat}(ff:lf W)(ax:an W b (#[aa th,aa ti]) 9)(hn:nl=ls.length)(H:nY (fun _=>True) W pl ls)(pL:wi ⟨cm,cq,bQ,bM,cB,ch⟩ ls 2 bJ bO ba=true):LK W (.agg #[I cm,I cq,I bQ,I bM,I cB,I ch,ad pl nl cl,ag b 0 2 ec,I bJ,I bO,I ba,I aB,I st]) 2 1 4 4:=by intro Z eY;refine (ad3 (fun _=>True) cm cq bQ bM cB ch ls pl nl cl hn (some (aj b 0)) 2 ec bJ bO ba aB st true 2 1 4 4 (by decide) pL Z (aq (H.below eY)) (aq fun h=>by cases h) (aq fun _ Y k9=>?_)).mono fun e w' h=>⟨h.1,_,_,_,_,_,_,h.no,fun e=>absurd e (by decide),fun e=>absurd e (by decide)⟩;have bK:=eY.trans (k9.mono eY.size);have az:=aU ax bK;exact aqA cm cq bQ bM cB ch pl nl cl b 0 ec bJ bO ba aB st th ti XH XI Y (ff.below bK) (cell_of az rfl) (cell_of az rfl) (lt_of_heap az)
end
theorem asc:nA ⟨0,0,8,1,1,0⟩ 0 [⟨pg,0,0,0,0,false⟩,⟨gg,0,0,0,0,false⟩] 0 (lV 0 0 0 ((1:Int).toNat *(1:Int).toNat)) (max 0 (min 9 100000000))=.error (1,1,4,4):=by rw[AO];show wj _ _ _ _ _ _ (ny _ _ _ (jx pg.data.toList 0))=_;rw[ae0,show ny ((0:Nat):Int) ⟨0,0,8,1,1,0⟩ (max 0 (min 9 100000000)) ([],0,0)=⟨some [(0,0)],0,0,0,0,8⟩ by rfl];show nA _ _ _ _ _ _=_;rw[AO];show wj _ _ _ _ _ _ (ny _ _ _ (jx gg.data.toList 0))=_;rw[ae1];rfl
theorem asd:nA ⟨0,0,8,1,1,0⟩ 0 [⟨eB,0,0,0,0,false⟩] 0 (lV 0 0 0 ((1:Int).toNat *(1:Int).toNat)) (max 0 (min 9 100000000))=.error (1,0,36,6):=by rw[AO];show wj _ _ _ _ _ _ (ny _ _ _ (jx eB.data.toList 0))=_;rw[ae2];rfl
theorem ase:nA ⟨0,0,8,1,1,0⟩ 1 [⟨eB,0,0,0,0,false⟩] 0 (lV 0 0 0 ((1:Int).toNat *(1:Int).toNat)) (max 0 (min 0 100000000))=.error (1,0,0,6):=by rw[AO];show wj _ _ _ _ _ _ (ny _ _ _ (jx eB.data.toList 1))=_;rw[P'];rfl
theorem asf:nA ⟨0,0,8,1,1,0⟩ 1 [⟨eB,0,0,0,0,false⟩,⟨eB,0,0,0,0,false⟩] 0 (lV 0 0 0 ((1:Int).toNat *(1:Int).toNat)) (max 0 (min 1 100000000))=.error (1,1,0,6):=by rw[AO];show wj _ _ _ _ _ _ (ny _ _ _ (jx eB.data.toList 1))=_;rw[P',show ny ((0:Nat):Int) ⟨0,0,8,1,1,0⟩ (max 0 (min 1 100000000)) (aeZ,0,0)=⟨some [(1,1)],0,0,0,0,0⟩ by rfl];show nA _ _ _ _ _ _=_;rw[AO];show wj _ _ _ _ _ _ (ny _ _ _ (jx eB.data.toList 1))=_;rw[P'];rfl
theorem asg:nA ⟨0,0,8,1,1,0⟩ 0 [⟨(⟨#[]⟩:Ua),0,0,0,0,false⟩] 0 (lV 0 0 0 ((1:Int).toNat *(1:Int).toNat)) (max 0 (min 0 100000000))=.error (1,0,0,11):=by rw[AO];show wj _ _ _ _ _ _ (ny _ _ _ (jx (⟨#[]⟩:Ua).data.toList 0))=_;rw[ae3];rfl
theorem Qb{p:ly→Prop}{a:ly}(h:p a):∀y∈ [a],p y:=fun y hy=>by rw[List.mem_singleton.1 hy];exact h
theorem ae5{p:ly→Prop}{a b:ly}(h:p a)(az:p b):∀y∈ [a,b],p y:=fun y hy=>by
 rcases List.mem_cons.1 hy with rfl|hy
 ·exact h
 ·exact Qb az y hy
theorem ae6{w:aeo}{k:Nat}{t ae7:Ua}(h:an w k (#[aa t,I 0,I 0,I 0,I 0,U false,aa ae7,I 0,I 0,I 0,I 0,U false]) c8):nY (fun _=>True) w (some (aj k 0)) [⟨t,0,0,0,0,false⟩,⟨ae7,0,0,0,0,false⟩]:=by refine⟨by show 2≤1000000000;decide,fun _=>⟨k,0,_,rfl,trivial,h,fun i hi=>?_⟩⟩;have Ba:i<2:=hi;rcases (show i=0∨i=1 by omega) with rfl|rfl<;>rfl
theorem ash:((madeCells #[aa ⟨#[]⟩,I 0,I 0,I 0,I 0,U false] 198)).toList=(List.replicate 33 (Vi ⟨⟨#[]⟩,0,0,0,0,false⟩)).flatten:=by kernel_rfl
theorem asi{w:aeo}{k:Nat}(h:an w k (madeCells #[aa ⟨#[]⟩,I 0,I 0,I 0,I 0,U false] 198) c8):nY (fun _=>True) w (some (aj k 0)) (List.replicate 33 ⟨⟨#[]⟩,0,0,0,0,false⟩):=by
 refine⟨by show 33≤1000000000;decide,fun _=>⟨k,0,_,rfl,trivial,h,fun i hi=>?_⟩⟩;have Ba:i<33:=hi;rw[List.getElem_replicate];clear hi;rw[ash]
 iterate 33 (rcases i with _|i; · rfl)
 omega
theorem asj{cs:ajv}{l:aev}{a n:Nat}(h:(cs.toList.drop a).take n=l){j:Nat}(cd:j<n):cs[a+j]?=l[j]?:=by rw[←h,Eu cd,yg,vw]
abbrev LN(gq gM hg hh hj gT hk hl ho hq:Nat):Array Value:= #[I 0,I 0,I 0,I 0,I 0,I 0,J 0,J 0,I 0,I 0,I 0,I 0,I 0,I 0,I 0,I 0,I 1,I 0,I 0,I 8,I 1,I 1,I 0,J 0,J 0,I 0,I 0,I 0,I 0,I 0,I 0,I 0,I 0,I 0,I 0,I 0,I 8,I 1,I 1,I 0,J 0,J 0,I 0,I 256,I 0,I 0,I 0,I 0,I 0,I 0,I 1,I 0,I 0,I 8,I 1,I 1,I 0,ad (some (aj gq 0)) 1 1,J 0,I 0,I 0,I 0,I 0,I 0,I 0,I 0,I 0,I 1,I 0,I 0,I 8,I 1,I 1,I 0,ad (some (aj gM 0)) 2 2,J 0,I 0,I 0,I 0,I 0,I 9,I 1,I 1,I 4,I 4,I 0,I 0,I 8,I 1,I 1,I 0,ad (some (aj hg 0)) 1 1,ad (some (aj hh 0)) 2 2,I 0,I 0,I 0,I 0,I 0,I 2,I 1,I 4,I 4,I 0,I 0,I 8,I 1,I 1,I 0,ad (some (aj hj 0)) 1 1,J 0,I 0,I 0,I 0,I 0,I 9,I 1,I 0,I 36,I 6,I 0,I 0,I 8,I 1,I 1,I 0,ad (some (aj gT 0)) 1 1,J 0,I 0,I 0,I 0,I 1,I 0,I 1,I 0,I 0,I 6,I 0,I 0,I 8,I 1,I 1,I 0,ad (some (aj hk 0)) 2 2,J 0,I 0,I 0,I 0,I 1,I 1,I 1,I 1,I 0,I 6,I 0,I 0,I 8,I 1,I 1,I 0,ad (some (aj hl 0)) 33 33,J 0,I 0,I 0,I 0,I 0,I 0,I 0,I 0,I 0,I 1,I 0,I 0,I 8,I 1,I 1,I 0,J 0,ad (some (aj ho 0)) 33 33,I 0,I 0,I 0,I 0,I 0,I 0,I 0,I 0,I 1,I 0,I 0,I 8,I 1,I 1,I 0,ad (some (aj hq 0)) 1 1,J 0,I 0,I 0,I 0,I 0,I 0,I 1,I 0,I 0,I 11]
theorem asl{W:aeo}{gq gM hg hh hj gT hk hl ho hq:Nat}(ff:lf W)(Ig:an W gq (#[aa gg,I 0,I 0,I 0,I (-1),U false]) c8)(zp:an W gM (#[aa pg,I 0,I 0,I 0,I 0,U false,aa gg,I 0,I 0,I 0,I 0,U false]) c8)(Ih:an W hg (#[aa gg,I 0,I 0,I 0,I 0,U false]) c8)(acI:an W hh (#[aa th,aa ti]) 9)(asm:an W hj (#[aa eB,I 0,I 0,I 0,I 0,U false]) c8)(asn:an W gT (#[aa eB,I 0,I 0,I 0,I 0,U false]) c8)(aso:an W hk (#[aa eB,I 0,I 0,I 0,I 0,U false,aa eB,I 0,I 0,I 0,I 0,U false]) c8)(asp:an W hl (madeCells #[aa ⟨#[]⟩,I 0,I 0,I 0,I 0,U false] 198) c8)(axU:an W ho (madeCells #[aa ⟨#[]⟩] 33) 9)(asq:an W hq (#[aa (⟨#[]⟩:Ua),I 0,I 0,I 0,I 0,U false]) c8)(k:Nat)(ay:k<12):
  ∃(cm cq bQ bM cB ch:Int) (pl:Ja) (nl cl:Nat) (ew:Ja) (bn ec:Nat) (bJ bO ba aB st f0 f1 f2 f3:Int),((LN gq gM hg hh hj gT hk hl ho hq).toList.drop (k *17)).take 17=[I cm,I cq,I bQ,I bM,I cB,I ch,ad pl nl cl,ad ew bn ec,I bJ,I bO,I ba,I aB,I st,I f0,I f1,I f2,I f3]∧
   LK W (.agg #[I cm,I cq,I bQ,I bM,I cB,I ch,ad pl nl cl,ad ew bn ec,I bJ,I bO,I ba,I aB,I st]) f0 f1 f2 f3:=by
 rcases (show k=0∨k=1∨k=2∨k=3∨k=4∨k=5∨k=6∨k=7∨k=8∨k=9∨k=10∨k=11 by omega) with rfl|rfl|rfl|rfl|rfl|rfl|rfl|rfl|rfl|rfl|rfl|rfl
 ·exact⟨_,_,_,_,_,_,_,_,_,_,_,_,_,_,_,_,_,_,_,_,_,rfl,LM rfl (LH W) (by decide+kernel)⟩
 ·exact⟨_,_,_,_,_,_,_,_,_,_,_,_,_,_,_,_,_,_,_,_,_,rfl,asa (ts:=[lK 0,lK 0,lK 0]) rfl (LH W) (by decide+kernel) (fun y hy=>absurd hy (by simp)) rfl (by decide)⟩
 ·exact⟨_,_,_,_,_,_,_,_,_,_,_,_,_,_,_,_,_,_,_,_,_,rfl,LM rfl (LH W) (by decide+kernel)⟩
 ·exact⟨_,_,_,_,_,_,_,_,_,_,_,_,_,_,_,_,_,_,_,_,_,rfl,LM rfl (Fa Ig) (by decide+kernel)⟩
 ·exact⟨_,_,_,_,_,_,_,_,_,_,_,_,_,_,_,_,_,_,_,_,_,rfl,LL (by decide) rfl (ae6 zp) (by decide+kernel) (ae5 ⟨rfl,ar5⟩ ⟨rfl,ar6⟩) asc⟩
 ·exact⟨_,_,_,_,_,_,_,_,_,_,_,_,_,_,_,_,_,_,_,_,_,rfl,asb ff acI rfl (Fa Ih) (by decide+kernel)⟩
 ·exact⟨_,_,_,_,_,_,_,_,_,_,_,_,_,_,_,_,_,_,_,_,_,rfl,LL (by decide) rfl (Fa asm) (by decide+kernel) (Qb ⟨rfl,ar7⟩) asd⟩
 ·exact⟨_,_,_,_,_,_,_,_,_,_,_,_,_,_,_,_,_,_,_,_,_,rfl,LL (by decide) rfl (Fa asn) (by decide+kernel) (Qb ⟨rfl,V7⟩) ase⟩
 ·exact⟨_,_,_,_,_,_,_,_,_,_,_,_,_,_,_,_,_,_,_,_,_,rfl,LL (by decide) rfl (ae6 aso) (by decide+kernel) (ae5 ⟨rfl,V7⟩ ⟨rfl,V7⟩) asf⟩
 ·exact⟨_,_,_,_,_,_,_,_,_,_,_,_,_,_,_,_,_,_,_,_,_,rfl,LM rfl (asi asp) (by decide+kernel)⟩
 ·exact⟨_,_,_,_,_,_,_,_,_,_,_,_,_,_,_,_,_,_,_,_,_,rfl,LM rfl (LH W) (by decide+kernel)⟩
 ·exact⟨_,_,_,_,_,_,_,_,_,_,_,_,_,_,_,_,_,_,_,_,_,rfl,LL (by decide) rfl (Fa asq) (by decide+kernel) (Qb ⟨rfl,ar8⟩) asg⟩
end dd
namespace dd
open Go.RowKit
structure V8(d:Nat→Tmp)(n m:Nat)(a0:Act)(w0:aeo)(G:Nat→ada→aeo→Prop)(L:Array Bool)(a:Act)(w:aeo):Prop where
 aX:ao w0 w0 w
 defs:a.defers=a0.defers
 bD:a.tmps.size=m
 out:∀t,(∀i,i<n→d i≠t)→a.eval (.tmp t)=a0.eval (.tmp t)
 has:∀i,i<n→L[i]?=some true→G i (a.eval (.tmp (d i))) w
structure Qc(P:Program)(ops:Array Oper)(d:Nat→Tmp)(n:Nat)(a0:Act)(w0:aeo)(G:Nat→ada→aeo→Prop)(i:Nat):Prop where
 op:∃o:Oper,ops[i]?=some o∧o.guard=none∧o.dst=some (d i)∧(∀e∈o.after,Region.binds .any e=true→e.on<i)∧
  ∃qc:List Nat,(∀j∈qc,j<n∧∃e∈o.after,Region.binds .any e=true∧e.on=j)∧
   ∀(a:Act) (w:aeo),ao w0 w0 w→(∀t,(∀i,i<n→d i≠t)→a.eval (.tmp t)=a0.eval (.tmp t))→(∀j∈qc,G j (a.eval (.tmp (d j))) w)→∃v w',(execOp a.eval o).run P w=.ok (.value v) w'∧ao w w w'∧G i v w'
section
variable{P:Program}{ops:Array Oper}{Q:Exit→Act→aeo→Prop}{d:Nat→Tmp}{n m:Nat}{a0:Act}{w0:aeo}{G:Nat→ada→aeo→Prop}
theorem asr{L:Array Bool}(jJ:L.size=n)(hn:ops.size=n)(bm:∀i,i<n→Qc P ops d n a0 w0 G i)(h:Region.ready .any ops L=[]):∀i,i<n→L[i]?=some true:=by
 intro i
 induction i using Nat.strongRecOn with
 |_ i cO=>
  intro hi;cases ax:L[i]? with
  |none=>rw[Wh] at ax;omega
  |some b=>
   cases b with
   |true=>rfl
   |false=>
    exfalso;obtain⟨o,av,_,_,bt,_⟩:=(bm i hi).op
    have:i∈Region.ready .any ops L:=by
     unfold Region.ready;rw[List.mem_filter];refine⟨List.mem_range.2 (by omega),?_⟩;rw[av];simp only[yH,G4,jh,Array.all_eq_true,Bb,Rs];refine⟨by rw[AS,ax];rfl,fun k ay=>?_⟩;by_cases ve:Region.binds .any o.after[k]=true
     ·have bR:=bt _ (Array.getElem_mem ay) ve;exact .inr (by rw[AS,cO _ bR (by omega)];rfl)
     ·exact .inl (by simpa using ve)
    rw[h] at this;exact absurd this (by simp)
theorem ass{a:Act}{t:Tmp}{v:ada}(h:t<a.tmps.size):(a.put (some t) v).eval (.tmp t)=v:=by show (a.tmps.setIfInBounds t v).getD t undef=v;rw[AS,IF h];rfl
theorem ae8{a:Act}{t u:Tmp}{v:ada}(h:t≠u):(a.put (some t) v).eval (.tmp u)=a.eval (.tmp u):=by show (a.tmps.setIfInBounds t v).getD u undef=a.tmps.getD u undef;rw[AS,zx h,AS]
theorem ast(hn:ops.size=n)(bm:∀i,i<n→Qc P ops d n a0 w0 G i)(hd:∀i j,i<n→j<n→d i=d j→i=j)(hm:∀i,i<n→d i<m)
  (zb:∀i v w w',G i v w→ao w w w'→G i v w') (J5:∀a w,V8 d n m a0 w0 G (Array.replicate n true) a w→Q .normal a w):
  ∀(fuel:Nat) (L:Array Bool) (a:Act) (w:aeo),L.size=n→L.toList.count false≤fuel→V8 d n m a0 w0 G L a w→wpAny P .any ops Q fuel L a w:=by
 have fin:∀(L:Array Bool) (a:Act) (w:aeo),L.size=n→V8 d n m a0 w0 G L a w→Region.ready .any ops L=[]→Q .normal a w:=by intro L a w jJ h hr;have ix:=asr jJ hn bm hr;exact J5 a w ⟨h.aX,h.defs,h.bD,h.out,fun i hi _=>h.has i hi (ix i hi)⟩
 intro fuel
 induction fuel with
 |zero=>
  intro L a w jJ hc h
  have hr:Region.ready .any ops L=[]:=by
   unfold Region.ready;rw[WL];intro i hi;have AW:i<L.size:=by rw[jJ,←hn];exact List.mem_range.1 hi
   have:L[i]?=some true:=by
    rw[Nd AW];cases ax:L[i] with
    |true=>rfl
    |false=>
     have:false∈L.toList:=(by rw[←ax];exact aeY AW);have:=List.count_pos_iff.2 this;omega
   rw[AS,this];simp
  exact⟨hr,fin L a w jJ h hr⟩
 |succ fuel cO=>
  intro L a w jJ hc h;refine⟨fin L a w jJ h,fun i hi=>?_⟩;obtain⟨ae9,o,av,ix⟩:=mem_ready.1 hi;have lZ:i<n:=(by rw[←hn];exact (Array.getElem?_eq_some_iff.1 av).1);have V9:i<L.size:=(by omega);have afa:L[i]=false:=(by rw[AS,Nd V9] at ae9;exact ae9);obtain⟨nD,g1,g2,g3,g4,qc,g5,g6⟩:=(bm i lZ).op;obtain rfl:o=nD:=q5 (av.symm.trans g1)
  obtain⟨v,w',Gd,ax,aY⟩:=g6 a w h.aX h.out fun j cd=>by
   obtain⟨mC,e,he,ve,rfl⟩:=g5 j cd;refine h.has _ mC ?_;have:=ix e he ve;rw[AS] at this;cases aR:L[e.on]? with
   |none=>rw[aR] at this;cases this
   |some b=>rw[aR] at this;exact fp some this
  unfold wpOp;rw[av];simp only[Region.wanted,g2,Ga];refine .inl ?_;unfold Oper.wp;rw[Gd];show wpAny P .any ops Q fuel (L.setIfInBounds i true) (a.put o.dst v) w';rw[g3];refine cO _ _ _ (by rw[yp,jJ]) ?_ ⟨h.aX.trans (ax.mono h.aX.size),h.defs,by show (a.tmps.setIfInBounds _ _).size=m;rw[yp];exact h.bD,fun t bE=>?_,fun j cd afb=>?_⟩
  ·rw[L7,List.count_set (by simpa using V9)];simp only[Qx,afa];have:0<L.toList.count false:=List.count_pos_iff.2 (by rw[←afa];exact aeY V9);show L.toList.count false-1+0≤fuel;omega
  ·rw[ae8 (bE i lZ)];exact h.out t bE
  ·by_cases e:j=i
   ·subst e;rw[ass (by rw[h.bD];exact hm j cd)];exact aY
   ·rw[ae8 (fun bf=>e (hd j i cd lZ bf.symm))];rw[zx (gu e)] at afb;exact zb _ _ _ _ (h.has j cd afb) ax
end
end dd
