/- Lemmas. -/
import Derived.Test.YtfldplmgkeiimaaGreatDoorQ15
import Derived.Test.YtfldplmgkeiimaaGreatDoorQ16
import Derived.Test.YtfldplmgkeiimaaGreatDoorQ14
import Derived.MapKept
set_option linter.all false
namespace Go.Proofs.YtfldplmgkeiimaaGreatDoor
abbrev abS:=@MapKept.run_getObj_map
abbrev abU:=@MapKept.run_checkKey
abbrev abV:=@MapKept.run_findKey
abbrev Pk:=@Proofs.Tryz.underlying158
abbrev A9:=@Nat.lt_of_succ_lt_succ
namespace gT
open Go.RowKit ny j6 px Mem p1 bS
def kD(T:aai)(w w':aeo):Prop:=w.heap.size≤w'.heap.size∧∀(k:Nat) (cs:ajv) (t:aai) (ei:Nat×Nat),w.heap[k]?=some (Obj.cells cs t ei)→t≠T→w'.heap[k]?=some (.cells cs t ei)
variable{T:aai}{w w':aeo}
theorem kD.dI(h:ao w w w'):kD T w w':=⟨h.size,fun k cs t ei ax _=>aU ax h⟩
theorem kD.trans{a b c:aeo}(h:kD T a b)(g:kD T b c):kD T a c:=⟨dB h.1 g.1,fun k cs t ei ax av=>g.2 k cs t ei (h.2 k cs t ei ax av) av⟩
variable{B:Nat}{v:ada}
theorem kD.grown{bG n:Nat}{xs:aev}(h:w.ownsRow B T bG v n xs)(ba:w.grownBy w' v.ownBlock):kD T w w':=
 ⟨ba.size,fun k cs t ei ax bB=>(ba.block k (Array.getElem?_eq_some_iff.1 ax).1 (gJ (oZ h ax (gJ bB)))).trans ax⟩
theorem kD.set{b i:Nat}{cs:ajv}{ei:Nat×Nat}(h:w.heap[b]?=some (.cells cs T ei))(u:ada):kD T w (w.setCell (aj b i) u):=by
 refine⟨by simp[World.setCell],fun k hX t Sg ax bB=>?_⟩;have q':k≠b:=by intro e;rw[e,h] at ax;injection ax with ax;injection ax with _ a6 _;exact bB a6.symm
 rw[uo _ _ _ _ q'];exact ax
variable{p:Ja}
theorem eW.keep{l:List Int}(h:eW B w p l)(ax:kD T w w')(eS:2≠T):eW B w' p l:=by intro aA;obtain⟨b,o,cs,rfl,bL,aJ,hc⟩:=h aA;exact⟨b,o,cs,rfl,bL,ax.2 _ _ _ _ aJ eS,hc⟩
def ow(B:Nat)(w:aeo)(p:Ja)(l:List (Int×Int)):Prop:=0<l.length→∃(b o:Nat) (cs:ajv),p=some ⟨b,o,none⟩∧B≤b∧an w b cs 413∧∀i (hi:i<l.length),cs[o+i *2]?=some (I l[i].1)∧cs[o+i *2+1]?=some (I l[i].2)
theorem ow.nil(B:Nat)(w:aeo)(p:Ja):ow B w p []:=fun h=>absurd h (oP _)
theorem ow.keep{l:List (Int×Int)}(h:ow B w p l)(ax:kD T w w')(eS:413≠T):ow B w' p l:=by intro aA;obtain⟨b,o,cs,rfl,bL,aJ,hc⟩:=h aA;exact⟨b,o,cs,rfl,bL,ax.2 _ _ _ _ aJ eS,hc⟩
theorem ow.mono{D:Nat}{l:List (Int×Int)}(h:ow B w p l)(cb:D≤B):ow D w p l:=by intro aA;obtain⟨b,o,cs,rfl,bL,aJ,hc⟩:=h aA;exact⟨b,o,cs,rfl,dB cb bL,aJ,hc⟩
def lk(B:Nat)(w:aeo)(p:Ja)(l:List (List (Int×Int))):Prop:=0<l.length→∃(b o:Nat) (cs:ajv),p=some ⟨b,o,none⟩∧B≤b∧an w b cs 345∧∀i (hi:i<l.length),∃q c,cs[o+i]?=some (.slice q l[i].length c)∧ow B w q l[i]
theorem lk.nil(B:Nat)(w:aeo)(p:Ja):lk B w p []:=fun h=>absurd h (oP _)
theorem lk.keep{T:aai}{B:Nat}{w w':aeo}{p:Ja}{l:List (List (Int×Int))}(h:lk B w p l)(ax:kD T w w')(av:413≠T)(az:345≠T):lk B w' p l:=by intro aA;obtain⟨b,o,cs,rfl,bL,aJ,hc⟩:=h aA;refine⟨b,o,cs,rfl,bL,ax.2 _ _ _ _ aJ az,fun i hi=>?_⟩;obtain⟨q,c,aH,bl⟩:=hc i hi;exact⟨q,c,aH,bl.keep ax av⟩
theorem lk.mono{B D:Nat}{w:aeo}{p:Ja}{l:List (List (Int×Int))}(h:lk B w p l)(cb:D≤B):lk D w p l:=by intro aA;obtain⟨b,o,cs,rfl,bL,aJ,hc⟩:=h aA;refine⟨b,o,cs,rfl,dB cb bL,aJ,fun i hi=>?_⟩;obtain⟨q,c,aH,bl⟩:=hc i hi;exact⟨q,c,aH,bl.mono cb⟩
def fG(B:Nat)(w:aeo)(p:Ja)(l:List eg):Prop:=0<l.length→∃(b o:Nat) (cs:ajv),p=some ⟨b,o,none⟩∧B≤b∧an w b cs 259∧
 ∀i (hi:i<l.length),∃q c,cs[o+i *4]?=some (I l[i].k)∧cs[o+i *4+1]?=some (I l[i].n)∧cs[o+i *4+2]?=some (aa ⟨l[i].t.toArray⟩)∧cs[o+i *4+3]?=some (.slice q l[i].args.length c)∧lk B w q l[i].args
theorem fG.nil(B:Nat)(w:aeo)(p:Ja):fG B w p []:=fun h=>absurd h (oP _)
theorem fG.keep{T:aai}{B:Nat}{w w':aeo}{p:Ja}{l:List eg}(h:fG B w p l)(ax:kD T w w')(av:413≠T)(az:345≠T)(aF:259≠T):fG B w' p l:=by intro aA;obtain⟨b,o,cs,rfl,bL,aJ,hc⟩:=h aA;refine⟨b,o,cs,rfl,bL,ax.2 _ _ _ _ aJ aF,fun i hi=>?_⟩;obtain⟨q,c,eD,a1,a6,ch,ha⟩:=hc i hi;exact⟨q,c,eD,a1,a6,ch,ha.keep ax av az⟩
theorem fG.mono{B D:Nat}{w:aeo}{p:Ja}{l:List eg}(h:fG B w p l)(cb:D≤B):fG D w p l:=by intro aA;obtain⟨b,o,cs,rfl,bL,aJ,hc⟩:=h aA;refine⟨b,o,cs,rfl,dB cb bL,aJ,fun i hi=>?_⟩;obtain⟨q,c,eD,a1,a6,ch,ha⟩:=hc i hi;exact⟨q,c,eD,a1,a6,ch,ha.mono cb⟩
inductive oy(B:Nat)(w:aeo):List (Nat×C)→aev→Prop
 |nil:oy B w [] []
 |cons {x:Nat×C} {l:List (Nat×C)} {p q:Ja} {k m:Nat} {xs:aev}:eW B w p x.2.b6→fG B w q x.2.blocks→oy B w l xs→
  oy B w (x::l) ((iX x.2 (x.1:Int) (ad p x.2.b6.length k) (ad q x.2.blocks.length m)).toList++xs)
variable{l:List (Nat×C)}
theorem oy.imp{D:Nat}{xs:aev}(h:oy B w l xs)(av:∀p n,eW B w p n→eW D w' p n)(az:∀p n,fG B w p n→fG D w' p n):oy D w' l xs:=by
 induction h with
 |nil=>exact .nil
 |cons a b _ cT=>exact .cons (av _ _ a) (az _ _ b) cT
theorem oy.append{m:List (Nat×C)}{xs fw:aev}(h:oy B w l xs)(g:oy B w m fw):oy B w (l++m) (xs++fw):=by
 induction h with
 |nil=>exact g
 |cons a b _ cT=>rw[Jv,List.append_assoc];exact .cons a b cT
theorem oy.snoc{xs:aev}(h:oy B w l xs)(x:Nat×C){q:Ja}(k m:Nat)(hn:eW B w p x.2.b6)(ay:fG B w q x.2.blocks):
  oy B w (l++[x]) (xs++(iX x.2 (x.1:Int) (ad p x.2.b6.length k) (ad q x.2.blocks.length m)).toList):=by
 have az:=h.append (.cons (k:=k) (m:=m) hn ay .nil)
 rwa [List.append_nil] at az
theorem oy.anb{xs:aev}(h:oy B w l xs)(ay:ao w w w'):oy B w' l xs:=
 h.imp (fun _ _ hn=>hn.below ay) (fun _ _ hn=>hn.keep (T:=0) (.dI ay) (by decide) (by decide) (by decide))
def jJ(B:Nat)(w:aeo)(v:ada)(l:List (Nat×C)):Prop:=∃xs,w.ownsRow B 104 12 v l.length xs∧oy B w l xs
theorem jJ.below(h:jJ B w v l)(ay:ao w w w'):jJ B w' v l:=by obtain⟨xs,av,az⟩:=h;exact⟨xs,e9 av ay,az.anb ay⟩
theorem jJ.nil(B:Nat)(w:aeo):jJ B w b3 []:=⟨[],⟨rfl,.inl ⟨rfl,rfl⟩⟩,.nil⟩
theorem jJ.push{X:aeo}{v':ada}{xs:aev}{x:Nat×C}{q:Ja}{k m:Nat}(hx:w.ownsRow B 104 12 v l.length xs)(hr:oy B w l xs)(hn:eW B w p x.2.b6)(ay:fG B w q x.2.blocks)(dd:ao w w X)(ba:X.grownBy w' v.ownBlock)
  (bl:w'.ownsRow B 104 12 v' (l.length+1) (xs++(iX x.2 (x.1:Int) (ad p x.2.b6.length k) (ad q x.2.blocks.length m)).toList)):jJ B w' v' (l++[x]):=by
 have hK:kD 104 w w':=(kD.dI dd).trans (.grown (e9 hx dd) ba);refine⟨_,?_,(hr.imp (fun _ _ h=>h.keep hK (by decide)) (fun _ _ h=>h.keep hK (by decide) (by decide) (by decide))).snoc x k m (hn.keep hK (by decide)) (ay.keep hK (by decide) (by decide) (by decide))⟩;rw[show (l++[x]).length=l.length+1 by simp];exact bl
theorem abW:(Tryz.prog.info? 104).map (fun i=>(i.zero,i.size,i.bytes))=some (some (.agg #[I 0,I 0,I 0,I 0,U false,aa ⟨#[]⟩,aa ⟨#[]⟩,aa ⟨#[]⟩,aa ⟨#[]⟩,aa ⟨#[]⟩,J 0,J 0]),12,168):=by kernel_rfl
end gT
namespace c4
open Go.RowKit dH
open gT (fG ow lk)
variable{w:aeo}{B bG n c m:Nat}{e:aai}{v:ada}
theorem so{t:aai}{xs:aev}(h:w.ownsRow B e bG v n xs){b:Nat}{cs:ajv}{ei:Nat×Nat}(ay:w.heap[b]?=some (.cells cs t ei))(he:e≠t):v.ownBlock≠some b:=by
 rcases h.2 with ⟨rfl,_⟩|⟨g,cap,cur,rfl,_,aJ,_⟩
 ·simp[Value.ownBlock]
 ·intro az;have:g=b:=(by simpa[Value.ownBlock] using az);subst this;rw[ay] at aJ;injection aJ with aJ;injection aJ with _ bB;exact he bB.symm
theorem abX{xs:aev}(h:w.ownsRow B e bG v n xs){b:Nat}{es:Array MapEntry}(ay:w.heap[b]?=some (.map es c)):v.ownBlock≠some b:=by
 rcases h.2 with ⟨rfl,_⟩|⟨g,cap,cur,rfl,_,aJ,_⟩
 ·simp[Value.ownBlock]
 ·intro az;have:g=b:=(by simpa[Value.ownBlock] using az);subst this;rw[ay] at aJ;cases aJ
theorem sq{g:Nat}{xs:aev}(h:w.ownsRow B e bG (ag g 0 n c) m xs):B≤g∧∃cur,w.heap[g]?=some (.cells cur e (0,0)):=by
 rcases h.2 with ⟨aS,_⟩|⟨k,cap,cur,ax,bL,aJ,_⟩
 ·cases aS
 ·injection ax with eI _ fT;injection eI with eI;injection eI with eI;subst eI;exact⟨bL,cur,aJ⟩
theorem o8{xs:aev}(h:w.ownsRow B e bG v n xs){k:Nat}(ax:v.ownBlock=some k):B≤k∧k<w.heap.size∧∃cur,w.heap[k]?=some (.cells cur e (0,0)):=by
 rcases h.2 with ⟨rfl,_⟩|⟨g,cap,cur,rfl,bL,aJ,_⟩
 ·simp[Value.ownBlock] at ax
 ·simp only[Value.ownBlock,mi] at ax;subst ax;exact⟨bL,lt_of_heap aJ,cur,aJ⟩
theorem lL{i j:Nat}{a b:ajv}{s t:aai}{f g:Nat×Nat}(av:w.heap[i]?=some (.cells a s f))(az:w.heap[j]?=some (.cells b t g))(h:s≠t):i≠j:=by rintro rfl;rw[av] at az;injection az with az;injection az with _ az;exact h az
theorem A'{i j:Nat}{a:ajv}{s:aai}{f:Nat×Nat}{es:Array MapEntry}(av:w.heap[i]?=some (.cells a s f))(az:w.heap[j]?=some (.map es c)):i≠j:=by rintro rfl;rw[av] at az;cases az
theorem mF{S:afp}{w':aeo}{xs:aev}(h:w.ownsRow B e bG v n xs)(ax:aQ S w w')(hS:∀k,v.ownBlock=some k→S k):w'.ownsRow B e bG v n xs:=by
 refine⟨h.1,?_⟩;rcases h.2 with av|⟨g,cap,cur,rfl,bL,aJ,az⟩
 ·exact .inl av
 ·exact .inr ⟨g,cap,cur,rfl,bL,ax.get (hS g rfl) aJ,az⟩
structure yc(R:afp)(B:Nat)(w:aeo)(cv:ada)(cs:List (List bK))(xs:aev):Prop where
 own:w.ownsRow B k6 1 cv cs.length xs
 init:∀i (hi:i+1<cs.length),∃q c,xs[i]?=some (.slice q cs[i].length c)∧cs[i].length≤c∧h6 R w q cs[i]
 last:∀i (hi:i<cs.length),i+1=cs.length→∃g c,xs[i]?=some (.slice (some (aj g 0)) cs[i].length c)∧w.ownsRow B i7 2 (.slice (some (aj g 0)) cs[i].length c) cs[i].length (uP cs[i])∧¬R g
theorem yc.nil(R:afp)(B:Nat)(w:aeo):yc R B w (J 0) [] []:=⟨⟨rfl,.inl ⟨rfl,rfl⟩⟩,fun i hi=>absurd hi (nB _),fun i hi=>absurd hi (nB _)⟩
theorem yc.below{R:afp}{B:Nat}{w w':aeo}{cv:ada}{cs:List (List bK)}{xs:aev}(h:yc R B w cv cs xs)(ay:ao w w w'):yc R B w' cv cs xs:=by
 refine⟨e9 h.own ay,fun i hi=>?_,fun i hi he=>?_⟩
 ·obtain⟨q,c,av,az,aF⟩:=h.init i hi;exact⟨q,c,av,az,aF.below ay⟩
 ·obtain⟨g,c,av,az,aF⟩:=h.last i hi he;exact⟨g,c,av,e9 az ay,aF⟩
theorem yc.keep{R S:afp}{B:Nat}{w w':aeo}{cv:ada}{cs:List (List bK)}{xs:aev}(h:yc R B w cv cs xs)(ax:aQ S w w')(av:∀k,R k→S k)(az:∀k cur t,w.heap[k]?=some (.cells cur t (0,0))→(t=k6∨t=i7)→S k):yc R B w' cv cs xs:=by
 refine⟨mF h.own ax fun k e=>?_,fun i hi=>?_,fun i hi he=>?_⟩
 ·obtain⟨_,_,cur,aJ⟩:=o8 h.own e;exact az _ _ _ aJ (.inl rfl)
 ·obtain⟨q,c,a1,a6,ch⟩:=h.init i hi;exact⟨q,c,a1,a6,(ch.keep (ax.mono fun k _=>av k))⟩
 ·obtain⟨g,c,a1,a6,ch⟩:=h.last i hi he;refine⟨g,c,a1,mF a6 ax fun k e=>?_,ch⟩;obtain⟨_,_,cur,aJ⟩:=o8 a6 e;exact az _ _ _ aJ (.inr rfl)
abbrev qJ:TypeId:=272
abbrev Lf:TypeId:=158
abbrev anc(a:ks)(iP cq fg:ada):Array Value:= #[I a.cF.b.k,I a.cF.b.a.1,I a.cF.b.a.2,I a.cF.b.b.1,I a.cF.b.b.2,I a.cF.b.c.1,I a.cF.b.c.2,I a.cF.b.r,iP,cq,I a.r,U a.round,U a.block,fg]
abbrev HV:Value:=.agg #[I 0,I 0,I 0,I 0,I 0,I 0,I 0,I 0,J 0,J 0,I 0,U false,U false,J 0]
def HW(R:afp)(w:aeo)(v:ada)(a:ks):Prop:=∃(pl:Ja) (cl:Nat) (pp:Ja) (cp:Nat) (l3:Ja) (co:Nat),v=.agg (anc a (ad pl a.cF.b.l.length cl) (ad pp a.cF.p.len cp) (ad l3 a.fc.length co))∧dv R w pl cl pp cp a.cF∧h9 R w l3 a.fc∧a.fc.length≤co
def mG(A:List (Int×Value))(k:Int):Option Value:=(A.find? fun x=>decide (k=x.1)).map Prod.snd
def tG(A:List (Int×Value))(k:Int)(v:ada):List (Int×Value):=match A.findIdx? (fun x=>decide (k=x.1)) with
 |some j=>A.set j (k,v)
 |none=>A++[(k,v)]
theorem abY(k j:Int)(v:ada):∀A:List (Int×Value),mG (tG A k v) j=if j=k then some v else mG A j
 |[]=>by by_cases h:j=k<;>simp[tG,mG,h]
 |x::A=>by
  have cT:=abY k j v A;by_cases hx:k=x.1
  ·subst hx;simp only[tG,Cs,decide_true,List.set_cons_zero,sZ];by_cases h:j=x.1<;>simp[mG,h]
  ·have e:tG (x::A) k v=x::tG A k v:=(by unfold tG;rw[Cs,eT hx];cases A.findIdx? (fun x=>decide (k=x.1))<;>simp);rw[e];by_cases h:j=x.1
   ·simp[mG,h,gJ hx]
   ·have a1:mG (x::tG A k v) j=mG (tG A k v) j:=(by simp[mG,h]);have a6:mG (x::A) j=mG A j:=(by simp[mG,h]);rw[a1,a6,cT]
def rn(R:afp)(w:aeo)(m:Nat)(ap:Int→Option ks):Prop:=∃(es:Array MapEntry) (c:Nat) (A:List (Int×Value)),w.heap[m]?=some (.map es c)∧es.toList.map (fun e=>(e.key,e.val))=A.map (fun x=>(Value.int .i64 x.1,x.2))∧∀k,match ap k with
 |none=>mG A k=none
 |some a=>∃v,mG A k=some v∧HW R w v a
theorem rn.keep{R S:afp}{w w':aeo}{m:Nat}{ap:Int→Option ks}(h:rn R w m ap)(ax:aQ S w w')(hm:S m)(hR:∀k,R k→S k):rn R w' m ap:=by
 obtain⟨es,c,A,av,az,aF⟩:=h;refine⟨es,c,A,ax.get hm av,az,fun k=>?_⟩;have bk:=aF k;cases ha:ap k with
 |none=>rw[ha] at bk;exact bk
 |some a=>
  rw[ha] at bk;obtain⟨v,b9,pl,cl,pp,cp,l3,co,cW,eN,ff,hJ⟩:=bk;exact⟨v,b9,pl,cl,pp,cp,l3,co,cW,eN.keep (ax.mono fun k _=>hR k),ff.keep (ax.mono fun k _=>hR k),hJ⟩
theorem rn.mono{R S:afp}{w:aeo}{m:Nat}{ap:Int→Option ks}(h:rn R w m ap)(hR:∀k,R k→S k):rn S w m ap:=by
 obtain⟨es,c,A,av,az,aF⟩:=h;refine⟨es,c,A,av,az,fun k=>?_⟩;have bk:=aF k;cases ha:ap k with
 |none=>rw[ha] at bk;exact bk
 |some a=>
  rw[ha] at bk;obtain⟨v,b9,pl,cl,pp,cp,l3,co,cW,eN,ff,hJ⟩:=bk;exact⟨v,b9,pl,cl,pp,cp,l3,co,cW,eN.mono fun k _=>hR k,ff.mono fun k _=>hR k,hJ⟩
theorem rn.map{R:afp}{w:aeo}{m:Nat}{ap:Int→Option ks}(h:rn R w m ap):∃es c,w.heap[m]?=some (.map es c):=by obtain⟨es,c,A,av,_⟩:=h;exact⟨es,c,av⟩
theorem T1(k:Int):∀(A:List (Int×Value)) (es:List MapEntry) (i:Nat),es.map (fun e=>(e.key,e.val))=A.map (fun x=>(Value.int .i64 x.1,x.2))→
  Instr.findNow (.int .i64) (I k) es i=some ((A.findIdx? fun x=>decide (k=x.1)).map fun j=>(i+j,(mG A k).getD HV))
 |[],es,i,he=>by have:es=[]:=(by simpa using he);subst this;simp[Instr.findNow]
 |x::A,es,i,he=>by
  cases es with
  |nil=>simp at he
  |cons e es=>
   simp only[oH,Hr,fS] at he;obtain⟨⟨av,az⟩,aF⟩:=he;by_cases ax:k=x.1
   ·simp[Instr.findNow,Instr.sameNow,av,az,ax,mG,Cs]
   ·have cT:=T1 k A es (i+1) aF;have fT:(k==x.1)=false:=beq_eq_false_iff_ne.2 ax;simp only[mG] at cT⊢;simp[Instr.findNow,Instr.sameNow,av,ax,fT,cT,Cs,xe,DL 1];rfl
theorem rn.look{R:afp}{ap:Int→Option ks}(h:rn R w m ap)(n:Int):∃v,(∀x:aeo,x.heap[m]?=w.heap[m]?→(Instr.lookup Lf (.map (some m)) (I n) true).run Tryz.prog x=.ok (.tuple #[v,U (ap n).isSome]) x)∧match ap n with
  |none=>v=HV
  |some a=>HW R w v a:=by
 obtain⟨es,c,A,av,az,aF⟩:=h;have hf:=T1 n A es.toList 0 az
 have key:∀x:aeo,x.heap[m]?=w.heap[m]?→(Instr.lookup Lf (.map (some m)) (I n) true).run Tryz.prog x=.ok (.tuple #[(mG A n).getD HV,U (mG A n).isSome]) x:=by
  intro x hx;have nd:=hx.trans av;have g1:=abS (P:=Tryz.prog) nd;have g2:∀b,(Instr.checkKey b 10000 3 (I n)).run Tryz.prog x=.ok () x:=fun b=>abU (P:=Tryz.prog) (w:=x) zo (k:=I n) rfl b 9999;have g3:=abV (P:=Tryz.prog) (w:=x) zo hf;have bn:(zeroValue qJ).run Tryz.prog x=.ok HV x:=(by kernel_rfl);cases hi:A.findIdx? (fun y=>decide (n=y.1)) with
  |none=>
   have hn:mG A n=none:=(by unfold mG;rw[aad] at hi;rw[List.find?_eq_none.2 (fun y hy=>by simpa using hi y hy)];rfl);rw[hi] at g3;simp[Instr.lookup,jq Pk,go_sem,g1,g2,g3,bn,hn,Result.andThen]
  |some j=>
   have hn:(mG A n).isSome=true:=(by unfold mG;rw[Option.isSome_map,List.find?_isSome];obtain⟨bW,cj,_⟩:=List.findIdx?_eq_some_iff_getElem.1 hi;exact⟨A[j],mu _,cj⟩);rw[hi] at g3;simp[Instr.lookup,jq Pk,go_sem,g1,g2,g3,bn,hn,Result.andThen]
 have bk:=aF n;cases ha:ap n with
 |none=>
  rw[ha] at bk;refine⟨HV,fun x hx=>?_,rfl⟩;have:=key x hx;rw[bk] at this;exact this
 |some a=>
  rw[ha] at bk;obtain⟨v,b9,cW⟩:=bk;refine⟨v,fun x hx=>?_,cW⟩;have:=key x hx;rw[b9] at this;exact this
theorem rn.ane{R:afp}{ap:Int→Option ks}(h:rn R w m ap)(hm:¬R m)(n:Int){a:ks}{v:ada}(aS:HW R w v a):
  ∃bV,(Instr.mapUpdate Lf (.map (some m)) (I n) v).run Tryz.prog w=.ok () bV∧rn R bV m (fun j=>if j=n then some a else ap j)∧aQ (fun b=>b≠m) w bV:=by
 obtain⟨es,c,A,av,az,aF⟩:=h;have hf:=T1 n A es.toList 0 az;have g1:=abS (P:=Tryz.prog) av;have g2:(Instr.checkKey false 10000 3 (I n)).run Tryz.prog w=.ok () w:=abU (P:=Tryz.prog) (w:=w) zo (k:=I n) rfl false 9999;have g3:=abV (P:=Tryz.prog) (w:=w) zo hf;have b1:=lt_of_heap av;have AU:∀qG c',aQ (fun b=>b≠m) w {w with heap:=w.heap.setIfInBounds m (.map qG c')}:=fun qG c'=>⟨rfl,rfl,rfl,by simp,fun b ay _=>by show (w.heap.setIfInBounds m _)[b]?=_;rw[zp,aR (gJ ay)]⟩;have Lg:∀qG c',({w with heap:=w.heap.setIfInBounds m (.map qG c')}:aeo).heap[m]?=some (.map qG c'):=fun qG c'=>by show (w.heap.setIfInBounds m _)[m]?=_;rw[zp,a8 rfl,a8 b1]
 have r6:∀qG c',aQ R w {w with heap:=w.heap.setIfInBounds m (.map qG c')}:=fun qG c'=>(AU qG c').mono fun k _ ax e=>hm (e ▸ ax)
 have lE:∀qG c',∀k,match (fun j=>if j=n then some a else ap j) k with
   |none=>mG (tG A n v) k=none
   |some a=>∃v',mG (tG A n v) k=some v'∧HW R {w with heap:=w.heap.setIfInBounds m (.map qG c')} v' a:=by
  intro qG c' k;simp only[abY];have eK:∀(v:ada) (a:ks),HW R w v a→HW R {w with heap:=w.heap.setIfInBounds m (.map qG c')} v a:=(by rintro v a ⟨pl,cl,pp,cp,l3,co,cW,eN,ff,hJ⟩;exact⟨pl,cl,pp,cp,l3,co,cW,eN.keep (r6 _ _),ff.keep (r6 _ _),hJ⟩);by_cases ax:k=n
  ·simp only[ax,sZ];exact⟨v,rfl,eK _ _ aS⟩
  ·simp only[ax,yZ];have bk:=aF k;cases ha:ap k with
   |none=>rw[ha] at bk;exact bk
   |some b=>
    rw[ha] at bk;obtain⟨v',b9,cW⟩:=bk;exact⟨v',b9,eK _ _ cW⟩
 cases hi:A.findIdx? (fun y=>decide (n=y.1)) with
 |none=>
  rw[hi] at g3;refine⟨{w with heap:=w.heap.setIfInBounds m (.map (es.push {key:=I n,val:=v,born:=c}) (c+1))},?_,⟨_,_,tG A n v,Lg _ _,?_,lE _ _⟩,AU _ _⟩
  ·simp[Instr.mapUpdate,jq Pk,go_sem,g1,g2,g3,Ot _ av,Result.andThen]
  ·unfold tG;rw[hi];simp only[Array.toList_push,nb,az,oH,AS]
 |some j=>
  rw[hi] at g3;obtain⟨bW,cj,_⟩:=List.findIdx?_eq_some_iff_getElem.1 hi;have q9:j<es.toList.length:=(by have:=fK List.length az;simp only[e6] at this;omega);have Oy:(es[j]?).map (·.key)=some (I n):=(by have b9:=fK (fun l=>l[j]?) az;simp only[Ct,l8 q9,l8 bW,Cp,mi,fS] at b9;have cW:es[j]?=some es.toList[j]:=(by rw[←xP,l8 q9]);rw[cW,Cp,b9.1];have:n=A[j].1:=(by simpa using cj);rw[this]);have kQ:∀x:aeo,(Instr.keyThatStays (I n) (I n)).run Tryz.prog x=.ok (I n) x:=(fun x=>by simp[Instr.keyThatStays,Instr.sameBits]);refine⟨{w with heap:=w.heap.setIfInBounds m (.map (es.modify j fun e=>{e with key:=I n,val:=v}) c)},?_,⟨_,_,tG A n v,Lg _ _,?_,lE _ _⟩,AU _ _⟩
  ·simp[Instr.mapUpdate,jq Pk,go_sem,g1,g2,g3,Oy,kQ,Ot _ av,Result.andThen]
  ·unfold tG;rw[hi];apply Hc;intro n';have b9:=fK (fun l=>l[n']?) az;simp only[Ct,Array.toList_modify,List.getElem?_modify,List.getElem?_set] at b9⊢;by_cases hn:j=n'
   ·subst hn;rw[l8 q9];simp[bW]
   ·simp only[hn,yZ] at b9⊢;simpa using b9
end c4
namespace c4
open Go.RowKit dH
open gT (fG ow lk)
open bS (eg)
abbrev zG:TypeId:=166
abbrev oz:TypeId:=169
abbrev qK:TypeId:=266
theorem ow.aZ{B:Nat}{w w':aeo}{p:Ja}{l:List (Int×Int)}(h:ow B w p l)(ay:ao w w w'):ow B w' p l:=fun aA=>by obtain⟨b,o,cs,e,av,az,aF⟩:=h aA;exact⟨b,o,cs,e,av,aU az ay,aF⟩
theorem lk.aZ{B:Nat}{w w':aeo}{p:Ja}{l:List (List (Int×Int))}(h:lk B w p l)(ay:ao w w w'):lk B w' p l:=fun aA=>by obtain⟨b,o,cs,e,av,az,aF⟩:=h aA;refine⟨b,o,cs,e,av,aU az ay,fun i hi=>?_⟩;obtain⟨q,c,bk,b9⟩:=aF i hi;exact⟨q,c,bk,ow.aZ b9 ay⟩
theorem fG.aZ{B:Nat}{w w':aeo}{p:Ja}{l:List eg}(h:fG B w p l)(ay:ao w w w'):fG B w' p l:=fun aA=>by obtain⟨b,o,cs,e,av,az,aF⟩:=h aA;refine⟨b,o,cs,e,av,aU az ay,fun i hi=>?_⟩;obtain⟨q,c,bk,b9,cW,eN,ff⟩:=aF i hi;exact⟨q,c,bk,b9,cW,eN,lk.aZ ff ay⟩
def vf(w0:aeo):List jz→aev→Prop
 |[],xs=>xs=[]
 |a::l,xs=>∃q c fw,xs=aa ⟨a.name.toArray⟩::ad q a.b.length c::fw∧fG 0 w0 q a.b∧vf w0 l fw
theorem vf.snoc{w0:aeo}{a:jz}{q:Ja}{c:Nat}(ay:fG 0 w0 q a.b):∀{l:List jz} {xs:aev},vf w0 l xs→vf w0 (l++[a]) (xs++[aa ⟨a.name.toArray⟩,ad q a.b.length c])
 |[],_,h=>by subst h;exact⟨q,c,[],rfl,ay,rfl⟩
 |_::_,_,⟨iH,c',fw,av,az,aF⟩=>⟨iH,c',fw++[aa ⟨a.name.toArray⟩,ad q a.b.length c],by rw[av];rfl,az,vf.snoc ay aF⟩
theorem vf.get{w0:aeo}:∀{l:List jz} {xs:aev},vf w0 l xs→∀i (hi:i<l.length),∃q c,xs[i *2]?=some (aa ⟨l[i].name.toArray⟩)∧xs[i *2+1]?=some (.slice q l[i].b.length c)∧fG 0 w0 q l[i].b
 |[],_,_,i,hi=>absurd hi (nB _)
 |a::l,_,⟨q,c,fw,av,az,aF⟩,0,_=>⟨q,c,by rw[av];rfl,by rw[av];rfl,az⟩
 |a::l,xs,⟨q,c,fw,av,az,aF⟩,i+1,hi=>by
  obtain⟨iH,c',bk,b9,cW⟩:=vf.get aF i (A9 hi);refine⟨iH,c',?_,?_,cW⟩
  ·rw[av,show (i+1) *2=i *2+2 by omega];exact bk
  ·rw[av,show (i+1) *2+1=i *2+1+2 by omega];exact b9
abbrev CQ(v:qv)(ov:ada):List Value:=[U v.step,I v.code,I v.n,I v.m,I v.eL.1,I v.eL.2,ov]
def o9(R:afp)(B:Nat)(w:aeo):List qv→aev→List Nat→Prop
 |[],hY,hs=>hY=[]∧hs=[]
 |v::l,hY,hs=>∃qe gs ov ox,hY=qe++CQ v ov∧hs=ov.ownBlock.toList++gs∧w.ownsRow B dD 11 ov v.fc.length ox∧ds R w (p' v.fc) ox∧o9 R B w l qe gs
theorem o9.keep{R S:afp}{B:Nat}{w w':aeo}(ax:aQ S w w')(hR:∀k,R k→S k):∀{l:List qv} {hY:aev} {hs:List Nat},o9 R B w l hY hs→(∀k,k∈hs→S k)→o9 R B w' l hY hs
 |[],_,_,h,_=>h
 |v::l,hY,hs,⟨qe,gs,ov,ox,av,az,aF,bk,b9⟩,hS=>⟨qe,gs,ov,ox,av,az,mF aF ax fun k e=>hS k (by rw[az,e];simp),bk.keep (ax.mono fun k _=>hR k),o9.keep ax hR b9 fun k hm=>hS k (by rw[az];simp[hm])⟩
theorem o9.mono{R S:afp}{B:Nat}{w:aeo}(hR:∀k,R k→S k):∀{l:List qv} {hY:aev} {hs:List Nat},o9 R B w l hY hs→o9 S B w l hY hs
 |[],_,_,h=>h
 |v::l,hY,hs,⟨qe,gs,ov,ox,av,az,aF,bk,b9⟩=>⟨qe,gs,ov,ox,av,az,aF,bk.mono fun k _=>hR k,o9.mono hR b9⟩
theorem o9.Fa{R:afp}{B:Nat}{w:aeo}:∀{l:List qv} {hY:aev} {hs:List Nat},o9 R B w l hY hs→∀k,k∈hs→B≤k∧k<w.heap.size∧∃cur,w.heap[k]?=some (.cells cur dD (0,0))
 |[],_,_,⟨_,h⟩,k,ax=>by rw[h] at ax;cases ax
 |v::l,hY,hs,⟨qe,gs,ov,ox,av,az,aF,bk,b9⟩,k,ax=>by
  rw[az,List.mem_append] at ax;rcases ax with ax|ax
  ·exact o8 aF (by simpa[Option.mem_toList] using ax)
  ·exact o9.Fa b9 k ax
theorem o9.len{R:afp}{B:Nat}{w:aeo}:∀{l:List qv} {hY:aev} {hs:List Nat},o9 R B w l hY hs→hY.length=l.length *7
 |[],_,_,⟨h,_⟩=>by rw[h];rfl
 |v::l,hY,hs,⟨qe,gs,ov,ox,av,az,aF,bk,b9⟩=>by have e:=o9.len b9;rw[av,hl,e,show (v::l).length=l.length+1 from rfl,RD];rfl
structure rp where
 b:Nat
 n:Nat
 c:Nat
 hY:List Value
 hs:List Nat
 eK:Value
 bD:List Value
abbrev T2(p:cH)(fu:Int)(m:Nat)(L:rp)(cv:ada):Array Value:= #[I p.unit,I fu,I p.kI,I p.fd,U p.fs,U p.formed,.map (some m),I p.uk,L.eK,I p.at_.1,I p.at_.2,I p.mode,U p.RP,U p.i1,U p.dm.bD,U p.dm.bR,I p.dm.q,I p.dm.eL.1,I p.dm.eL.2,U p.region,cv,ad (some (aj L.b 0)) L.n L.c,I p.made,I p.budget,U p.ended]
structure Pl(P m:Nat)(L:rp)(cv ov:ada)(k:Nat):Prop where
 Lh:k≠P
 T3:k≠m
 abZ:k≠L.b
 anf:cv.ownBlock≠some k
 Li:ov.ownBlock≠some k
 ku:L.eK.ownBlock≠some k
 ang:k ∉ L.hs
structure gr(w0:aeo)(P:Nat)(R:afp)(m:Nat)(L:rp)(fu:Int)(cv ov:ada)(cx ox:aev)(p:cH)(w:aeo):Prop where
 pl:an w P (T2 p fu m L cv) zG
 mp:rn R w m p.jA
 rq:L.n=p.levels.length+1
 gG:w.ownsRow w0.heap.size oz 7 (ag L.b 0 L.n L.c) L.n (L.hY++CQ p.top ov)
 ni:o9 R w0.heap.size w p.levels L.hY L.hs
 zH:∀k,k∈L.hs→ov.ownBlock≠some k
 Ba:L.hs.Nodup
 bF:yc R w0.heap.size w cv p.rM cx
 aB:w.ownsRow w0.heap.size dD 11 ov p.top.fc.length ox
 tH:ds R w (p' p.top.fc) ox
 hC:w.ownsRow w0.heap.size qK 2 L.eK p.fB.length L.bD
 yd:vf w0 p.fB L.bD
 nN:∀k,R k→w0.heap.size≤k∧k<w.heap.size
 mH:∀k,R k→Pl P m L cv ov k
 ye:w0.heap.size≤P
 zI:w0.heap.size≤m
 aZ:ao w0 w0 w
def o'(w0:aeo)(P:Nat)(p:cH)(w:aeo):Prop:=∃R m L fu cv ov cx ox,gr w0 P R m L fu cv ov cx ox p w
section
variable{w0:aeo}{P:Nat}{R:afp}{m:Nat}{L:rp}{fu:Int}{cv ov:ada}{cx ox:aev}{p:cH}{w:aeo}
theorem gr.T4(h:gr w0 P R m L fu cv ov cx ox p w):w0.heap.size≤L.b∧∃cur,w.heap[L.b]?=some (.cells cur oz (0,0)):=sq h.gG
theorem gr.kinds(h:gr w0 P R m L fu cv ov cx ox p w):(∃cs,w.heap[P]?=some (.cells cs zG (0,0)))∧(∃es c,w.heap[m]?=some (.map es c))∧(∃cs,w.heap[L.b]?=some (.cells cs oz (0,0)))∧(∀k,cv.ownBlock=some k→∃cs,w.heap[k]?=some (.cells cs k6 (0,0)))∧(∀k,ov.ownBlock=some k→∃cs,w.heap[k]?=some (.cells cs dD (0,0)))∧(∀k,L.eK.ownBlock=some k→∃cs,w.heap[k]?=some (.cells cs qK (0,0)))∧∀k,k∈L.hs→∃cs,w.heap[k]?=some (.cells cs dD (0,0)):=
 ⟨⟨_,h.pl⟩,h.mp.map,h.T4.2,fun k e=>(o8 h.bF.own e).2.2,fun k e=>(o8 h.aB e).2.2,fun k e=>(o8 h.hC e).2.2,fun k ax=>(h.ni.Fa k ax).2.2⟩
theorem gr.anh(h:gr w0 P R m L fu cv ov cx ox p w){k:Nat}{cs:ajv}{t:aai}{ei:Nat×Nat}(ax:w.heap[k]?=some (.cells cs t ei))(av:t≠zG)(az:t≠oz)(aF:t≠k6)(bk:t≠dD)(b9:t≠qK):Pl P m L cv ov k:=by obtain⟨⟨_,bE⟩,⟨_,_,a2⟩,⟨_,a3⟩,a4,a5,rZ,qB⟩:=h.kinds;exact⟨lL ax bE av,A' ax a2,lL ax a3 az,so h.bF.own ax (gJ aF),so h.aB ax (gJ bk),so h.hC ax (gJ b9),fun hm=>by obtain⟨c,hc⟩:=qB k hm;exact lL ax hc bk rfl⟩
theorem gr.ani(h:gr w0 P R m L fu cv ov cx ox p w){k:Nat}(ax:w.heap.size≤k):Pl P m L cv ov k:=by
 obtain⟨⟨_,bE⟩,⟨_,_,a2⟩,⟨_,a3⟩,a4,a5,rZ,qB⟩:=h.kinds;refine⟨fun e=>?_,fun e=>?_,fun e=>?_,fun e=>?_,fun e=>?_,fun e=>?_,fun e=>?_⟩
 ·have:=lt_of_heap bE;omega
 ·have:=lt_of_heap a2;omega
 ·have:=lt_of_heap a3;omega
 ·obtain⟨_,hc⟩:=a4 k e;have:=lt_of_heap hc;omega
 ·obtain⟨_,hc⟩:=a5 k e;have:=lt_of_heap hc;omega
 ·obtain⟨_,hc⟩:=rZ k e;have:=lt_of_heap hc;omega
 ·obtain⟨_,hc⟩:=qB k e;have:=lt_of_heap hc;omega
theorem gr.below(h:gr w0 P R m L fu cv ov cx ox p w){w':aeo}(ay:ao w w w'):gr w0 P R m L fu cv ov cx ox p w':=
 have ax:aQ (fun _=>True) w w':=.dI ay
 {h with pl:=aU h.pl ay,mp:=h.mp.keep ax trivial (fun _ _=>trivial),gG:=e9 h.gG ay,ni:=h.ni.keep ax (fun _ _=>trivial) (fun _ _=>trivial),bF:=h.bF.below ay,aB:=e9 h.aB ay,tH:=h.tH.below ay,hC:=e9 h.hC ay,nN:=fun k ax=>⟨(h.nN k ax).1,jN (h.nN k ax).2 ay.size⟩,aZ:=h.aZ.trans (ay.mono h.aZ.size)}
variable{w':aeo}
theorem gr.fresh(h:gr w0 P R m L fu cv ov cx ox p w)(ay:ao w w w'):gr w0 P (fun k=>R k∨(w.heap.size≤k∧k<w'.heap.size)) m L fu cv ov cx ox p w':=
 have e3:=h.below ay
 {e3 with
  mp:=e3.mp.mono fun k ax=>.inl ax
  ni:=e3.ni.mono fun k ax=>.inl ax
  bF:=by
   refine⟨e3.bF.own,fun i hi=>?_,fun i hi he=>?_⟩
   ·obtain⟨q,c,a1,a6,ch⟩:=e3.bF.init i hi;exact⟨q,c,a1,a6,ch.mono fun k _ ax=>.inl ax⟩
   ·obtain⟨g,c,a1,a6,ch⟩:=h.bF.last i hi he;exact⟨g,c,a1,e9 a6 ay,fun ax=>ax.elim ch fun ax=>absurd (o8 a6 (k:=g) rfl).2.1 (Nat.not_lt.2 ax.1)⟩
  tH:=e3.tH.mono fun k _ ax=>.inl ax
  nN:=fun k ax=>ax.elim (e3.nN k) fun ax=>⟨dB h.aZ.size ax.1,ax.2⟩
  mH:=fun k ax=>ax.elim (h.mH k) fun ax=>h.ani ax.1}
theorem gr.HX(h:gr w0 P R m L fu cv ov cx ox p w){ig:cH}{ab0:Int}(ax:aQ (fun k=>k≠P) w w')(hp:an w' P (T2 ig ab0 m L cv) zG)(av:ig.rM=p.rM)(az:ig.top=p.top)(aF:ig.jA=p.jA)(bk:ig.levels=p.levels)(b9:ig.fB=p.fB):gr w0 P R m L ab0 cv ov cx ox ig w':=
 have hR:∀k,R k→k≠P:=fun k ax=>(h.mH k ax).Lh
 {pl:=hp
  mp:=by rw[aF];exact h.mp.keep ax (by obtain⟨es,c,hm⟩:=h.mp.map;exact (A' h.pl hm).symm) hR
  rq:=by rw[bk];exact h.rq
  gG:=by rw[az];exact mF h.gG ax fun k e=>fun a6=>so h.gG h.pl (by decide) (a6 ▸ e)
  ni:=by rw[bk];exact h.ni.keep ax hR fun k hm e=>by obtain⟨_,_,c,hc⟩:=h.ni.Fa k hm;exact lL hc h.pl (by decide) e
  zH:=h.zH
  Ba:=h.Ba
  bF:=by rw[av];exact h.bF.keep ax hR (fun k cur t aJ bB=>lL aJ h.pl (by rcases bB with rfl|rfl<;>decide))
  aB:=by rw[az];exact mF h.aB ax fun k e=>fun a6=>so h.aB h.pl (by decide) (a6 ▸ e)
  tH:=by rw[az];exact h.tH.keep (ax.mono fun k _ Pm=>hR k Pm)
  hC:=by rw[b9];exact mF h.hC ax fun k e=>fun a6=>so h.hC h.pl (by decide) (a6 ▸ e)
  yd:=by rw[b9];exact h.yd
  nN:=fun k Lj=>⟨(h.nN k Lj).1,jN (h.nN k Lj).2 ax.size⟩
  mH:=h.mH
  ye:=h.ye
  zI:=h.zI
  aZ:=h.aZ.trans (ax.below _ h.aZ.size fun k fT e=>by have:=h.ye;omega)}
theorem gr.T5(h:gr w0 P R m L fu cv ov cx ox p w){l:Nat}(aA:p.levels.length=l)(j:Nat)(cr:j<7):w.cell? ⟨L.b,l *7+j,none⟩=(CQ p.top ov)[j]?∧w.frozen? ⟨L.b,l *7+j,none⟩=false:=by have hlen:=h.ni.len;have hn:=h.rq;refine⟨?_,h.gG.frozenAt _⟩;rw[h.gG.cellAt (l *7+j) (by omega),EI (by omega),hlen,aA,OA]
end
theorem o'.below{w0:aeo}{P:Nat}{p:cH}{w w':aeo}(h:o' w0 P p w)(ay:ao w w w'):o' w0 P p w':=by obtain⟨R,m,L,fu,cv,ov,cx,ox,h⟩:=h;exact⟨R,m,L,fu,cv,ov,cx,ox,h.below ay⟩
def jK(w0:aeo)(P:Nat)(res:Except Nat cH)(e:Ending)(w':aeo):Prop:=Below w0.heap.size w0 w'∧match res with
 |.ok q=>e=ab (I 0)∧o' w0 P q w'
 |.error k=>e=ab (I (k:Int))
def wG(w0:aeo)(P:Nat)(R Q:afp)(w:aeo)(res:Except Nat cH)(e:Ending)(w':aeo):Prop:=Below w0.heap.size w0 w'∧aQ Q w w'∧match res with
 |.ok q=>e=ab (I 0)∧∃R' m L fu cv ov cx ox,(∀k,R k→R' k)∧gr w0 P R' m L fu cv ov cx ox q w'
 |.error k=>e=ab (I (k:Int))
theorem wG.res{w0:aeo}{P:Nat}{R Q:afp}{w w':aeo}{res:Except Nat cH}{e:Ending}(h:wG w0 P R Q w res e w'):jK w0 P res e w':=by
 obtain⟨av,_,az⟩:=h;refine⟨av,?_⟩;cases res with
 |ok q=>
  obtain⟨aF,R',m,L,fu,cv,ov,cx,ox,_,bk⟩:=az;exact⟨aF,_,_,_,_,_,_,_,_,bk⟩
 |error k=>exact az
variable{w0 w':aeo}{P:Nat}{res:Except Nat cH}{e:Ending}
theorem wG.wide{R gU Q ab1:afp}{w X:aeo}(h:wG w0 P gU ab1 X res e w')(dd:ao w w X)(av:∀k,Q k→k<X.heap.size→ab1 k)(az:∀k,R k→gU k):wG w0 P R Q w res e w':=by
 obtain⟨a,b,c⟩:=h;refine⟨a,(aQ.dI dd).trans (b.mono fun k aA ax=>av k ax aA),?_⟩;cases res with
 |ok q=>
  obtain⟨e,R',m,L,fu,cv,ov,cx,ox,g,h⟩:=c;exact⟨e,R',m,L,fu,cv,ov,cx,ox,fun k ax=>g k (az k ax),h⟩
 |error k=>exact c
theorem jK.CR{R:afp}{m:Nat}{L:rp}{fu:Int}{cv ov:ada}{cx ox:aev}{p:cH}{w:aeo}(he:e=ab (I 0))(h:gr w0 P R m L fu cv ov cx ox p w):jK w0 P (.ok p) e w:=⟨h.aZ,he,_,_,_,_,_,_,_,_,h⟩
theorem jK.get(h:jK w0 P res e w'){q:cH}(aH:res=.ok q):e=ab (I 0)∧o' w0 P q w':=by subst aH;exact h.2
theorem jK.err(h:jK w0 P res e w'){k:Nat}(aH:res=.error k):e=ab (I (k:Int)):=by subst aH;exact h.2
theorem jK.ret(h:jK w0 P res e w'):∃v:Int,e=ab (I v):=by
 cases res with
 |ok q=>exact⟨0,h.2.1⟩
 |error k=>exact⟨(k:Int),h.2⟩
end c4
namespace c4
open Go.RowKit dH
variable{w:aeo}{xs:aev}
theorem anj{B g n c bG:Nat}{e:aai}{Z V:aev}(h:w.ownsRow B e bG (ag g 0 (n+1) c) (n+1) (xs++Z))(hx:xs.length=n *bG)(aS:V.length=bG):(iV w g (n *bG) V).ownsRow B e bG (ag g 0 (n+1) c) (n+1) (xs++V):=by
 have Pn:(n+1) *bG=n *bG+bG:=RD n bG;refine⟨by rw[hl,hx,aS,Pn],?_⟩;rcases h.2 with ⟨aS,_⟩|⟨k,cap,cur,ax,bL,aJ,av,az,aF,bk⟩
 ·cases aS
 ·injection ax with eI _ fT;injection eI with eI;injection eI with eI;subst eI fT;have gK:n *bG+V.length≤cur.size:=(by rw[aS,aF,←Pn];exact Nat.mul_le_mul_right _ av);refine .inr ⟨g,c,_,rfl,bL,Hi V aJ,av,az,by rw[Kc];exact aF,?_⟩;have hd:=ZF (vs:=V) gK;rw[aS] at hd;rw[Pn,List.take_add,ZE (bx _),hd]
  congr 1
  have:=fK (List.take (n *bG)) bk;rw[Ef,xH (by rw[Pn];omega),List.take_left' hx] at this;exact this
theorem ank{B g n c:Nat}{e:aai}{z0 z1 z2 z3 z4 z5 hZ hO ib z9 kU:ada}(h:w.ownsRow B e 11 (ag g 0 (n+1) c) (n+1) (xs++[z0,z1,z2,z3,z4,z5,hZ,hO,ib,z9,kU]))(hx:xs.length=n *11):
  ak w g (n *11) z0∧ak w g (n *11+1) z1∧ak w g (n *11+2) z2∧ak w g (n *11+3) z3∧ak w g (n *11+4) z4∧ak w g (n *11+5) z5∧ak w g (n *11+6) hZ∧ak w g (n *11+7) hO∧ak w g (n *11+8) ib∧ak w g (n *11+9) z9∧ak w g (n *11+10) kU:=by
 have key:∀j,j<11→w.cell? ⟨g,n *11+j,none⟩=[z0,z1,z2,z3,z4,z5,hZ,hO,ib,z9,kU][j]?:=by intro j cr;rw[h.cellAt (n *11+j) (by omega),EI (by omega),hx,OA]
 exact⟨key 0 (by decide),key 1 (by decide),key 2 (by decide),key 3 (by decide),key 4 (by decide),key 5 (by decide),key 6 (by decide),key 7 (by decide),key 8 (by decide),key 9 (by decide),key 10 (by decide)⟩
theorem set_comm{i j a b:Nat}{u v:ada}(h:i≠j):(w.setCell (aj i a) u).setCell (aj j b) v=(w.setCell (aj j b) v).setCell (aj i a) u:=by
 unfold World.setCell;simp only
 congr 1
 apply N3;intro k;rw[Ao,Ao,Ao,Ao];by_cases av:i=k
 ·subst av;rw[aR (gJ h),aR (gJ h)]
 ·rw[aR av,aR av]
theorem ab2{b L o:Nat}{u:ada}(h:L≠b):∀(vs:aev) {w:aeo} {m:Nat},iV (w.setCell (aj L o) u) b m vs=(iV w b m vs).setCell (aj L o) u
 |[],_,_=>rfl
 |v::vs,w,m=>by show iV ((w.setCell (aj L o) u).setCell (aj b m) v) b (m+1) vs=(iV (w.setCell (aj b m) v) b (m+1) vs).setCell (aj L o) u;rw[set_comm h];exact ab2 h vs
theorem anl{R:afp}{l:List dx}{ox V:aev}{d:Bool}{bs:cJ}{s:bc}{pl:Ja}{cl:Nat}{pp:Ja}{cp:Nat}(h:ds R w (p' l) ox)(aA:ox.length=l.length *11)(lg:V=U d::ke bs (ad pl bs.l.length cl) (ad pp s.len cp))(ay:dv R w pl cl pp cp ⟨bs,s⟩):ds R w (p' (l++[(d,⟨bs,s⟩)])) (ox++V):=by rw[Kn];refine ds.append h (by rw[aA,Et]) ?_;subst lg;exact ds.mk (S:=R) (w:=w) (a:=d) (b:=bs) (s:=s) (r:=.nil) (pl:=pl) (cl:=cl) (pp:=pp) (cp:=cp) (by rfl) ay trivial
theorem anm{B K n c i bG:Nat}{e:aai}{u:ada}(h:w.ownsRow B e bG (ag K 0 n c) n xs)(hi:i<n *bG):(w.setCell (aj K i) u).ownsRow B e bG (ag K 0 n c) n (xs.set i u):=by
 refine⟨by rw[NF];exact h.1,?_⟩;rcases h.2 with ⟨aS,_⟩|⟨k,cap,cur,ax,bL,aJ,av,az,aF,bk⟩
 ·cases aS
 ·injection ax with eI _ fT;injection eI with eI;injection eI with eI;subst eI fT;refine .inr ⟨K,c,cur.setIfInBounds i u,rfl,bL,dL u aJ,av,az,by rw[Ci];exact aF,?_⟩;rw[RZ,R0,bk]
theorem ann{hY:aev}{l:Nat}(aA:hY.length=l *7)(v:qv)(ov Po:ada)(uq:List dx):(hY++CQ v ov).set (l *7+6) Po=hY++CQ {v with fc:=uq} Po:=by rw[S6 _ _ (by omega),aA,OA];rfl
theorem gr.AO{w0:aeo}{P:Nat}{R:afp}{m:Nat}{L:rp}{fu:Int}{cv ov:ada}{cx ox:aev}{p:cH}{X cA:aeo}{n l dh c:Nat}{Z V:aev}{d:Bool}{bs:cJ}{s:bc}{pl:Ja}{cl:Nat}{pp:Ja}{cp:Nat}
  (h:gr w0 P R m L fu cv ov cx ox p X) (hn:p.top.fc.length=n) (aA:p.levels.length=l) (ba:X.grownBy cA ov.ownBlock) (cI:cA.ownsRow w0.heap.size dD 11 (ag dh 0 (n+1) c) (n+1) (ox++Z)) (hw:some dh=ov.ownBlock∨X.heap.size≤dh)
  (lg:V=U d::ke bs (ad pl bs.l.length cl) (ad pp s.len cp)) (ay:dv R X pl cl pp cp ⟨bs,s⟩):
  aQ R X ((iV cA dh (n *11) V).setCell (aj L.b (l *7+6)) (ag dh 0 (n+1) c))∧
  gr w0 P R m L fu cv (ag dh 0 (n+1) c) cx (ox++V) {p with top:={p.top with fc:=p.top.fc++[(d,⟨bs,s⟩)]}} ((iV cA dh (n *11) V).setCell (aj L.b (l *7+6)) (ag dh 0 (n+1) c)):=by
 have ano:V.length=11:=by rw[lg];rfl
 have ab3:ox.length=n *11:=by rw[h.aB.1,hn]
 have ab4:=anj cI ab3 ano;obtain⟨zv,cur,gp⟩:=sq cI;obtain⟨_,abd,axu⟩:=sq ab4;obtain⟨axv,axw,Pp⟩:=h.T4;obtain⟨es,Fb,tI⟩:=h.mp.map;have anp:L.hY.length=l *7:=by rw[h.ni.len,aA]
 have sr:L.n=l+1:=by rw[h.rq,aA]
 have ab5:¬R dh:=by
  rcases hw with e|e
  ·exact fun ax=>(h.mH dh ax).Li e.symm
  ·intro ax;have:=(h.nN dh ax).2;omega
 have ab6:∀k,k∈L.hs→k≠dh:=by
  intro k ax e;subst e;rcases hw with e|e
  ·exact h.zH k ax e.symm
  ·have:=(h.ni.Fa k ax).2.1;omega
 have hne:∀k cs t ei,X.heap[k]?=some (.cells cs t ei)→t≠dD→ov.ownBlock≠some k∧k≠dh:=by intro k cs t ei ax bB;have av:=so h.aB ax (gJ bB);exact⟨av,lL ((ba.block k (lt_of_heap ax) (gJ av)).trans ax) gp bB⟩
 have O5:∀k es c,X.heap[k]?=some (.map es c)→ov.ownBlock≠some k∧k≠dh:=by intro k es c ax;have av:=abX h.aB ax;exact⟨av,(A' gp ((ba.block k (lt_of_heap ax) (gJ av)).trans ax)).symm⟩
 have Fc:=hne _ _ _ _ Pp (by decide);have RU:aQ (fun k=>ov.ownBlock≠some k∧k≠dh∧k≠L.b) X cA:=aQ.grown ba fun k e ax=>ax.1 e;have anq:aQ (fun k=>ov.ownBlock≠some k∧k≠dh∧k≠L.b) cA (iV cA dh (n *11) V):=xK (fun ax=>ax.2.1 rfl) V;have hK:aQ (fun k=>ov.ownBlock≠some k∧k≠dh∧k≠L.b) X ((iV cA dh (n *11) V).setCell (aj L.b (l *7+6)) (ag dh 0 (n+1) c)):=(RU.trans anq).trans (aQ.set (a:=⟨L.b,l *7+6,none⟩) (fun ax=>ax.2.2 rfl) _);have d':World.ownsRow (iV cA dh (n *11) V) w0.heap.size oz 7 (ag L.b 0 L.n L.c) L.n (L.hY++CQ p.top ov):=mF (mF h.gG (aQ.grown (S:=fun k=>ov.ownBlock≠some k) ba fun k e ax=>ax e) fun k e=>by have a6:L.b=k:=(by simpa[Value.ownBlock] using e);rw[←a6];exact Fc.1) (xK (S:=fun k=>k≠dh) (fun ax=>ax rfl) V) fun k e=>by have a6:L.b=k:=(by simpa[Value.ownBlock] using e);rw[←a6];exact Fc.2
 have T6:∀k cs t ei,X.heap[k]?=some (.cells cs t ei)→t≠dD→t≠oz→ov.ownBlock≠some k∧k≠dh∧k≠L.b:=fun k cs t ei ax av az=>⟨(hne k cs t ei ax av).1,(hne k cs t ei ax av).2,lL ax Pp az⟩;have HY:∀k,R k→ov.ownBlock≠some k∧k≠dh∧k≠L.b:=fun k ax=>⟨(h.mH k ax).Li,fun e=>ab5 (e ▸ ax),(h.mH k ax).abZ⟩;have anr:∀k,k∈L.hs→ov.ownBlock≠some k∧k≠dh∧k≠L.b:=fun k ax=>⟨h.zH k ax,ab6 k ax,by obtain⟨_,_,c,hc⟩:=h.ni.Fa k ax;exact lL hc Pp (by decide)⟩;have ans:(p.top.fc++[(d,(⟨bs,s⟩:dK))]).length=n+1:=by rw[hl,hn];rfl
 refine⟨hK.mono fun k _ ax=>HY k ax,?_⟩
 exact {
  pl:=hK.get (T6 _ _ _ _ h.pl (by decide) (by decide)) h.pl
  mp:=h.mp.keep hK ⟨(O5 _ _ _ tI).1,(O5 _ _ _ tI).2,(A' Pp tI).symm⟩ HY
  rq:=h.rq
  gG:=by have av:=anm (u:=ad (some (aj dh 0)) (n+1) c) (i:=l *7+6) d' (by omega);rw[ann anp p.top ov _ (p.top.fc++[(d,⟨bs,s⟩)])] at av;exact av
  ni:=h.ni.keep hK HY anr
  zH:=fun k ax e=>ab6 k ax (by simpa[Value.ownBlock] using e.symm)
  Ba:=h.Ba
  bF:=h.bF.keep hK HY (fun k cur t aJ bB=>T6 _ _ _ _ aJ (by rcases bB with rfl|rfl<;>decide) (by rcases bB with rfl|rfl<;>decide))
  aB:=by show World.ownsRow _ _ _ _ _ (p.top.fc++[(d,(⟨bs,s⟩:dK))]).length _;rw[ans];refine mF ab4 (aQ.set (S:=fun k=>k≠L.b) (a:=⟨L.b,l *7+6,none⟩) (fun ax=>ax rfl) _) fun k e a6=>?_;have:dh=k:=(by simpa[Value.ownBlock] using e);exact Fc.2 (a6.symm.trans this.symm)
  tH:=anl (h.tH.keep (hK.mono fun k _ ax=>HY k ax)) (by rw[ab3,hn]) lg (ay.keep (hK.mono fun k _ ax=>HY k ax))
  hC:=mF h.hC hK fun k e=>by obtain⟨_,_,c,hc⟩:=o8 h.hC e;exact T6 _ _ _ _ hc (by decide) (by decide)
  yd:=h.yd
  nN:=fun k ax=>⟨(h.nN k ax).1,jN (h.nN k ax).2 hK.size⟩
  mH:=fun k ax=>{h.mH k ax with Li:=fun e=>ab5 ((show dh=k by simpa[Value.ownBlock] using e)▸ ax)}
  ye:=h.ye
  zI:=h.zI
  aZ:=h.aZ.trans (hK.below _ h.aZ.size fun k ax=>⟨fun e=>by have:=(o8 h.aB e).1;omega,by omega,by omega⟩)}
end c4
