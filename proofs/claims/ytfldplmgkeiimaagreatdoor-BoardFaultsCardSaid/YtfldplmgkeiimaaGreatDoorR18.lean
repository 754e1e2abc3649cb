/- Lemmas. -/
import Derived.Test.YtfldplmgkeiimaaGreatDoorR16
import Derived.Test.YtfldplmgkeiimaaGreatDoorR17
import Derived.Test.YtfldplmgkeiimaaGreatDoorR15
import Derived.MapKept
set_option linter.all false
namespace Go.Proofs.YtfldplmgkeiimaaGreatDoor
abbrev ZR:=@MapKept.run_getObj_map
abbrev ZS:=@MapKept.run_checkKey
abbrev ZT:=@MapKept.run_findKey
abbrev Oo:=@Proofs.Tryz.underlying158
abbrev Aj:=@Nat.lt_of_succ_lt_succ
abbrev S8:=@Nat.succ_mul
namespace iS
open Go.RowKit kR ig n1 Mem pN ct
def ky(T:aai)(w w':aeo):Prop:=w.heap.size≤w'.heap.size∧∀(k:Nat) (cs:ajv) (t:aai) (dT:Nat×Nat),w.heap[k]?=some (Obj.cells cs t dT)→t≠T→w'.heap[k]?=some (.cells cs t dT)
variable{T:aai}{w w':aeo}
theorem ky.dW(h:ao w w w'):ky T w w':=⟨h.size,fun k cs t dT ay _=>aU ay h⟩
theorem ky.trans{a b c:aeo}(h:ky T a b)(g:ky T b c):ky T a c:=⟨dx h.1 g.1,fun k cs t dT ay av=>g.2 k cs t dT (h.2 k cs t dT ay av) av⟩
variable{B:Nat}{v:ada}
theorem ky.grown{bD n:Nat}{xs:aev}(h:w.ownsRow B T bD v n xs)(aF:w.grownBy w' v.ownBlock):ky T w w':=
 ⟨aF.size,fun k cs t dT ay bE=>(aF.block k (Array.getElem?_eq_some_iff.1 ay).1 (gu (m' h ay (gu bE)))).trans ay⟩
theorem ky.set{b i:Nat}{cs:ajv}{dT:Nat×Nat}(h:w.heap[b]?=some (.cells cs T dT))(u:ada):ky T w (w.setCell (aj b i) u):=by
 refine⟨by simp[World.setCell],fun k hV t Q3 ay bE=>?_⟩;have qt:k≠b:=by intro e;rw[e,h] at ay;injection ay with ay;injection ay with _ bf _;exact bE bf.symm
 rw[tn _ _ _ _ qt];exact ay
variable{p:Ja}
theorem dH.keep{l:List Int}(h:dH B w p l)(ay:ky T w w')(fC:2≠T):dH B w' p l:=by intro aA;obtain⟨b,o,cs,rfl,bK,aK,hc⟩:=h aA;exact⟨b,o,cs,rfl,bK,ay.2 _ _ _ _ aK fC,hc⟩
def oB(B:Nat)(w:aeo)(p:Ja)(l:List (Int×Int)):Prop:=0<l.length→∃(b o:Nat) (cs:ajv),p=some ⟨b,o,none⟩∧B≤b∧an w b cs 413∧∀i (hi:i<l.length),cs[o+i *2]?=some (I l[i].1)∧cs[o+i *2+1]?=some (I l[i].2)
theorem oB.nil(B:Nat)(w:aeo)(p:Ja):oB B w p []:=fun h=>absurd h (mA _)
theorem oB.keep{l:List (Int×Int)}(h:oB B w p l)(ay:ky T w w')(fC:413≠T):oB B w' p l:=by intro aA;obtain⟨b,o,cs,rfl,bK,aK,hc⟩:=h aA;exact⟨b,o,cs,rfl,bK,ay.2 _ _ _ _ aK fC,hc⟩
theorem oB.mono{D:Nat}{l:List (Int×Int)}(h:oB B w p l)(b2:D≤B):oB D w p l:=by intro aA;obtain⟨b,o,cs,rfl,bK,aK,hc⟩:=h aA;exact⟨b,o,cs,rfl,dx b2 bK,aK,hc⟩
def mi(B:Nat)(w:aeo)(p:Ja)(l:List (List (Int×Int))):Prop:=0<l.length→∃(b o:Nat) (cs:ajv),p=some ⟨b,o,none⟩∧B≤b∧an w b cs 345∧∀i (hi:i<l.length),∃q c,cs[o+i]?=some (.slice q l[i].length c)∧oB B w q l[i]
theorem mi.nil(B:Nat)(w:aeo)(p:Ja):mi B w p []:=fun h=>absurd h (mA _)
theorem mi.keep{T:aai}{B:Nat}{w w':aeo}{p:Ja}{l:List (List (Int×Int))}(h:mi B w p l)(ay:ky T w w')(av:413≠T)(az:345≠T):mi B w' p l:=by intro aA;obtain⟨b,o,cs,rfl,bK,aK,hc⟩:=h aA;refine⟨b,o,cs,rfl,bK,ay.2 _ _ _ _ aK az,fun i hi=>?_⟩;obtain⟨q,c,aR,bm⟩:=hc i hi;exact⟨q,c,aR,bm.keep ay av⟩
theorem mi.mono{B D:Nat}{w:aeo}{p:Ja}{l:List (List (Int×Int))}(h:mi B w p l)(b2:D≤B):mi D w p l:=by intro aA;obtain⟨b,o,cs,rfl,bK,aK,hc⟩:=h aA;refine⟨b,o,cs,rfl,dx b2 bK,aK,fun i hi=>?_⟩;obtain⟨q,c,aR,bm⟩:=hc i hi;exact⟨q,c,aR,bm.mono b2⟩
def gY(B:Nat)(w:aeo)(p:Ja)(l:List eC):Prop:=0<l.length→∃(b o:Nat) (cs:ajv),p=some ⟨b,o,none⟩∧B≤b∧an w b cs 259∧
 ∀i (hi:i<l.length),∃q c,cs[o+i *4]?=some (I l[i].k)∧cs[o+i *4+1]?=some (I l[i].n)∧cs[o+i *4+2]?=some (aa ⟨l[i].t.toArray⟩)∧cs[o+i *4+3]?=some (.slice q l[i].args.length c)∧mi B w q l[i].args
theorem gY.nil(B:Nat)(w:aeo)(p:Ja):gY B w p []:=fun h=>absurd h (mA _)
theorem gY.keep{T:aai}{B:Nat}{w w':aeo}{p:Ja}{l:List eC}(h:gY B w p l)(ay:ky T w w')(av:413≠T)(az:345≠T)(aC:259≠T):gY B w' p l:=by intro aA;obtain⟨b,o,cs,rfl,bK,aK,hc⟩:=h aA;refine⟨b,o,cs,rfl,bK,ay.2 _ _ _ _ aK aC,fun i hi=>?_⟩;obtain⟨q,c,ek,a7,bf,cM,ha⟩:=hc i hi;exact⟨q,c,ek,a7,bf,cM,ha.keep ay av az⟩
theorem gY.mono{B D:Nat}{w:aeo}{p:Ja}{l:List eC}(h:gY B w p l)(b2:D≤B):gY D w p l:=by intro aA;obtain⟨b,o,cs,rfl,bK,aK,hc⟩:=h aA;refine⟨b,o,cs,rfl,dx b2 bK,aK,fun i hi=>?_⟩;obtain⟨q,c,ek,a7,bf,cM,ha⟩:=hc i hi;exact⟨q,c,ek,a7,bf,cM,ha.mono b2⟩
inductive iy(B:Nat)(w:aeo):List (Nat×C)→aev→Prop
 |nil:iy B w [] []
 |cons {x:Nat×C} {l:List (Nat×C)} {p q:Ja} {k m:Nat} {xs:aev}:dH B w p x.2.bX→gY B w q x.2.blocks→iy B w l xs→
  iy B w (x::l) ((jm x.2 (x.1:Int) (ad p x.2.bX.length k) (ad q x.2.blocks.length m)).toList++xs)
variable{l:List (Nat×C)}
theorem iy.imp{D:Nat}{xs:aev}(h:iy B w l xs)(av:∀p n,dH B w p n→dH D w' p n)(az:∀p n,gY B w p n→gY D w' p n):iy D w' l xs:=by
 induction h with
 |nil=>exact .nil
 |cons a b _ cO=>exact .cons (av _ _ a) (az _ _ b) cO
theorem iy.append{m:List (Nat×C)}{xs fy:aev}(h:iy B w l xs)(g:iy B w m fy):iy B w (l++m) (xs++fy):=by
 induction h with
 |nil=>exact g
 |cons a b _ cO=>rw[H9,List.append_assoc];exact .cons a b cO
theorem iy.snoc{xs:aev}(h:iy B w l xs)(x:Nat×C){q:Ja}(k m:Nat)(hn:dH B w p x.2.bX)(ax:gY B w q x.2.blocks):
  iy B w (l++[x]) (xs++(jm x.2 (x.1:Int) (ad p x.2.bX.length k) (ad q x.2.blocks.length m)).toList):=by
 have az:=h.append (.cons (k:=k) (m:=m) hn ax .nil)
 rwa [List.append_nil] at az
theorem iy.aj8{xs:aev}(h:iy B w l xs)(ax:ao w w w'):iy B w' l xs:=
 h.imp (fun _ _ hn=>hn.below ax) (fun _ _ hn=>hn.keep (T:=0) (.dW ax) (by decide) (by decide) (by decide))
def jL(B:Nat)(w:aeo)(v:ada)(l:List (Nat×C)):Prop:=∃xs,w.ownsRow B 104 12 v l.length xs∧iy B w l xs
theorem jL.below(h:jL B w v l)(ax:ao w w w'):jL B w' v l:=by obtain⟨xs,av,az⟩:=h;exact⟨xs,gC av ax,az.aj8 ax⟩
theorem jL.nil(B:Nat)(w:aeo):jL B w bN []:=⟨[],⟨rfl,.inl ⟨rfl,rfl⟩⟩,.nil⟩
theorem jL.push{X:aeo}{v':ada}{xs:aev}{x:Nat×C}{q:Ja}{k m:Nat}(hx:w.ownsRow B 104 12 v l.length xs)(hr:iy B w l xs)(hn:dH B w p x.2.bX)(ax:gY B w q x.2.blocks)(c7:ao w w X)(aF:X.grownBy w' v.ownBlock)
  (bm:w'.ownsRow B 104 12 v' (l.length+1) (xs++(jm x.2 (x.1:Int) (ad p x.2.bX.length k) (ad q x.2.blocks.length m)).toList)):jL B w' v' (l++[x]):=by
 have hK:ky 104 w w':=(ky.dW c7).trans (.grown (gC hx c7) aF);refine⟨_,?_,(hr.imp (fun _ _ h=>h.keep hK (by decide)) (fun _ _ h=>h.keep hK (by decide) (by decide) (by decide))).snoc x k m (hn.keep hK (by decide)) (ax.keep hK (by decide) (by decide) (by decide))⟩;rw[show (l++[x]).length=l.length+1 by simp];exact bm
theorem ZU:(Tryz.prog.info? 104).map (fun i=>(i.zero,i.size,i.bytes))=some (some (.agg #[I 0,I 0,I 0,I 0,U false,aa ⟨#[]⟩,aa ⟨#[]⟩,aa ⟨#[]⟩,aa ⟨#[]⟩,aa ⟨#[]⟩,J 0,J 0]),12,168):=by kernel_rfl
end iS
namespace dd
open Go.RowKit ef
open iS (gY oB mi)
variable{w:aeo}{B bD n c m:Nat}{e:aai}{v:ada}
theorem rU{t:aai}{xs:aev}(h:w.ownsRow B e bD v n xs){b:Nat}{cs:ajv}{dT:Nat×Nat}(ax:w.heap[b]?=some (.cells cs t dT))(he:e≠t):v.ownBlock≠some b:=by
 rcases h.2 with ⟨rfl,_⟩|⟨g,cap,cur,rfl,_,aK,_⟩
 ·simp[Value.ownBlock]
 ·intro az;have:g=b:=(by simpa[Value.ownBlock] using az);subst this;rw[ax] at aK;injection aK with aK;injection aK with _ bE;exact he bE.symm
theorem ZV{xs:aev}(h:w.ownsRow B e bD v n xs){b:Nat}{es:Array MapEntry}(ax:w.heap[b]?=some (.map es c)):v.ownBlock≠some b:=by
 rcases h.2 with ⟨rfl,_⟩|⟨g,cap,cur,rfl,_,aK,_⟩
 ·simp[Value.ownBlock]
 ·intro az;have:g=b:=(by simpa[Value.ownBlock] using az);subst this;rw[ax] at aK;cases aK
theorem sU{g:Nat}{xs:aev}(h:w.ownsRow B e bD (ag g 0 n c) m xs):B≤g∧∃cur,w.heap[g]?=some (.cells cur e (0,0)):=by
 rcases h.2 with ⟨aY,_⟩|⟨k,cap,cur,ay,bK,aK,_⟩
 ·cases aY
 ·injection ay with ej _ fs;injection ej with ej;injection ej with ej;subst ej;exact⟨bK,cur,aK⟩
theorem vI{xs:aev}(h:w.ownsRow B e bD v n xs){k:Nat}(ay:v.ownBlock=some k):B≤k∧k<w.heap.size∧∃cur,w.heap[k]?=some (.cells cur e (0,0)):=by
 rcases h.2 with ⟨rfl,_⟩|⟨g,cap,cur,rfl,bK,aK,_⟩
 ·simp[Value.ownBlock] at ay
 ·simp only[Value.ownBlock,n7] at ay;subst ay;exact⟨bK,lt_of_heap aK,cur,aK⟩
theorem oC{i j:Nat}{a b:ajv}{s t:aai}{f g:Nat×Nat}(av:w.heap[i]?=some (.cells a s f))(az:w.heap[j]?=some (.cells b t g))(h:s≠t):i≠j:=by rintro rfl;rw[av] at az;injection az with az;injection az with _ az;exact h az
theorem Ak{i j:Nat}{a:ajv}{s:aai}{f:Nat×Nat}{es:Array MapEntry}(av:w.heap[i]?=some (.cells a s f))(az:w.heap[j]?=some (.map es c)):i≠j:=by rintro rfl;rw[av] at az;cases az
theorem nT{S:afp}{w':aeo}{xs:aev}(h:w.ownsRow B e bD v n xs)(ay:aP S w w')(hS:∀k,v.ownBlock=some k→S k):w'.ownsRow B e bD v n xs:=by
 refine⟨h.1,?_⟩;rcases h.2 with av|⟨g,cap,cur,rfl,bK,aK,az⟩
 ·exact .inl av
 ·exact .inr ⟨g,cap,cur,rfl,bK,ay.get (hS g rfl) aK,az⟩
structure xv(R:afp)(B:Nat)(w:aeo)(cv:ada)(cs:List (List b3))(xs:aev):Prop where
 own:w.ownsRow B kW 1 cv cs.length xs
 init:∀i (hi:i+1<cs.length),∃q c,xs[i]?=some (.slice q cs[i].length c)∧cs[i].length≤c∧h4 R w q cs[i]
 last:∀i (hi:i<cs.length),i+1=cs.length→∃g c,xs[i]?=some (.slice (some (aj g 0)) cs[i].length c)∧w.ownsRow B jT 2 (.slice (some (aj g 0)) cs[i].length c) cs[i].length (tV cs[i])∧¬R g
theorem xv.nil(R:afp)(B:Nat)(w:aeo):xv R B w (J 0) [] []:=⟨⟨rfl,.inl ⟨rfl,rfl⟩⟩,fun i hi=>absurd hi (my _),fun i hi=>absurd hi (my _)⟩
theorem xv.below{R:afp}{B:Nat}{w w':aeo}{cv:ada}{cs:List (List b3)}{xs:aev}(h:xv R B w cv cs xs)(ax:ao w w w'):xv R B w' cv cs xs:=by
 refine⟨gC h.own ax,fun i hi=>?_,fun i hi he=>?_⟩
 ·obtain⟨q,c,av,az,aC⟩:=h.init i hi;exact⟨q,c,av,az,aC.below ax⟩
 ·obtain⟨g,c,av,az,aC⟩:=h.last i hi he;exact⟨g,c,av,gC az ax,aC⟩
theorem xv.keep{R S:afp}{B:Nat}{w w':aeo}{cv:ada}{cs:List (List b3)}{xs:aev}(h:xv R B w cv cs xs)(ay:aP S w w')(av:∀k,R k→S k)(az:∀k cur t,w.heap[k]?=some (.cells cur t (0,0))→(t=kW∨t=jT)→S k):xv R B w' cv cs xs:=by
 refine⟨nT h.own ay fun k e=>?_,fun i hi=>?_,fun i hi he=>?_⟩
 ·obtain⟨_,_,cur,aK⟩:=vI h.own e;exact az _ _ _ aK (.inl rfl)
 ·obtain⟨q,c,a7,bf,cM⟩:=h.init i hi;exact⟨q,c,a7,bf,(cM.keep (ay.mono fun k _=>av k))⟩
 ·obtain⟨g,c,a7,bf,cM⟩:=h.last i hi he;refine⟨g,c,a7,nT bf ay fun k e=>?_,cM⟩;obtain⟨_,_,cur,aK⟩:=vI bf e;exact az _ _ _ aK (.inr rfl)
abbrev p6:TypeId:=272
abbrev JW:TypeId:=158
abbrev aj9(a:vc)(jj bQ fc:ada):Array Value:= #[I a.dC.b.k,I a.dC.b.a.1,I a.dC.b.a.2,I a.dC.b.b.1,I a.dC.b.b.2,I a.dC.b.c.1,I a.dC.b.c.2,I a.dC.b.r,jj,bQ,I a.r,U a.round,U a.block,fc]
abbrev GC:Value:=.agg #[I 0,I 0,I 0,I 0,I 0,I 0,I 0,I 0,J 0,J 0,I 0,U false,U false,J 0]
def GD(R:afp)(w:aeo)(v:ada)(a:vc):Prop:=∃(pl:Ja) (cl:Nat) (pp:Ja) (cp:Nat) (lH:Ja) (co:Nat),v=.agg (aj9 a (ad pl a.dC.b.l.length cl) (ad pp a.dC.p.len cp) (ad lH a.fk.length co))∧dE R w pl cl pp cp a.dC∧h8 R w lH a.fk∧a.fk.length≤co
def mj(A:List (Int×Value))(k:Int):Option Value:=(A.find? fun x=>decide (k=x.1)).map Prod.snd
def sV(A:List (Int×Value))(k:Int)(v:ada):List (Int×Value):=match A.findIdx? (fun x=>decide (k=x.1)) with
 |some j=>A.set j (k,v)
 |none=>A++[(k,v)]
theorem ZW(k j:Int)(v:ada):∀A:List (Int×Value),mj (sV A k v) j=if j=k then some v else mj A j
 |[]=>by by_cases h:j=k<;>simp[sV,mj,h]
 |x::A=>by
  have cO:=ZW k j v A;by_cases hx:k=x.1
  ·subst hx;simp only[sV,BI,decide_true,List.set_cons_zero,Ga];by_cases h:j=x.1<;>simp[mj,h]
  ·have e:sV (x::A) k v=x::sV A k v:=(by unfold sV;rw[BI,ey hx];cases A.findIdx? (fun x=>decide (k=x.1))<;>simp);rw[e];by_cases h:j=x.1
   ·simp[mj,h,gu hx]
   ·have a7:mj (x::sV A k v) j=mj (sV A k v) j:=(by simp[mj,h]);have bf:mj (x::A) j=mj A j:=(by simp[mj,h]);rw[a7,bf,cO]
def qQ(R:afp)(w:aeo)(m:Nat)(ap:Int→Option vc):Prop:=∃(es:Array MapEntry) (c:Nat) (A:List (Int×Value)),w.heap[m]?=some (.map es c)∧es.toList.map (fun e=>(e.key,e.val))=A.map (fun x=>(Value.int .i64 x.1,x.2))∧∀k,match ap k with
 |none=>mj A k=none
 |some a=>∃v,mj A k=some v∧GD R w v a
theorem qQ.keep{R S:afp}{w w':aeo}{m:Nat}{ap:Int→Option vc}(h:qQ R w m ap)(ay:aP S w w')(hm:S m)(hR:∀k,R k→S k):qQ R w' m ap:=by
 obtain⟨es,c,A,av,az,aC⟩:=h;refine⟨es,c,A,ay.get hm av,az,fun k=>?_⟩;have bt:=aC k;cases ha:ap k with
 |none=>rw[ha] at bt;exact bt
 |some a=>
  rw[ha] at bt;obtain⟨v,cr,pl,cl,pp,cp,lH,co,c4,ez,eS,fM⟩:=bt;exact⟨v,cr,pl,cl,pp,cp,lH,co,c4,ez.keep (ay.mono fun k _=>hR k),eS.keep (ay.mono fun k _=>hR k),fM⟩
theorem qQ.mono{R S:afp}{w:aeo}{m:Nat}{ap:Int→Option vc}(h:qQ R w m ap)(hR:∀k,R k→S k):qQ S w m ap:=by
 obtain⟨es,c,A,av,az,aC⟩:=h;refine⟨es,c,A,av,az,fun k=>?_⟩;have bt:=aC k;cases ha:ap k with
 |none=>rw[ha] at bt;exact bt
 |some a=>
  rw[ha] at bt;obtain⟨v,cr,pl,cl,pp,cp,lH,co,c4,ez,eS,fM⟩:=bt;exact⟨v,cr,pl,cl,pp,cp,lH,co,c4,ez.mono fun k _=>hR k,eS.mono fun k _=>hR k,fM⟩
theorem qQ.map{R:afp}{w:aeo}{m:Nat}{ap:Int→Option vc}(h:qQ R w m ap):∃es c,w.heap[m]?=some (.map es c):=by obtain⟨es,c,A,av,_⟩:=h;exact⟨es,c,av⟩
theorem S9(k:Int):∀(A:List (Int×Value)) (es:List MapEntry) (i:Nat),es.map (fun e=>(e.key,e.val))=A.map (fun x=>(Value.int .i64 x.1,x.2))→
  Instr.findNow (.int .i64) (I k) es i=some ((A.findIdx? fun x=>decide (k=x.1)).map fun j=>(i+j,(mj A k).getD GC))
 |[],es,i,he=>by have:es=[]:=(by simpa using he);subst this;simp[Instr.findNow]
 |x::A,es,i,he=>by
  cases es with
  |nil=>simp at he
  |cons e es=>
   simp only[yh,RZ,gh] at he;obtain⟨⟨av,az⟩,aC⟩:=he;by_cases ay:k=x.1
   ·simp[Instr.findNow,Instr.sameNow,av,az,ay,mj,BI]
   ·have cO:=S9 k A es (i+1) aC;have fs:(k==x.1)=false:=beq_eq_false_iff_ne.2 ay;simp only[mj] at cO⊢;simp[Instr.findNow,Instr.sameNow,av,ay,fs,cO,BI,wo,L9 1];rfl
theorem qQ.look{R:afp}{ap:Int→Option vc}(h:qQ R w m ap)(n:Int):∃v,(∀x:aeo,x.heap[m]?=w.heap[m]?→(Instr.lookup JW (.map (some m)) (I n) true).run Tryz.prog x=.ok (.tuple #[v,U (ap n).isSome]) x)∧match ap n with
  |none=>v=GC
  |some a=>GD R w v a:=by
 obtain⟨es,c,A,av,az,aC⟩:=h;have hf:=S9 n A es.toList 0 az
 have key:∀x:aeo,x.heap[m]?=w.heap[m]?→(Instr.lookup JW (.map (some m)) (I n) true).run Tryz.prog x=.ok (.tuple #[(mj A n).getD GC,U (mj A n).isSome]) x:=by
  intro x hx;have ff:=hx.trans av;have g1:=ZR (P:=Tryz.prog) ff;have g2:∀b,(Instr.checkKey b 10000 3 (I n)).run Tryz.prog x=.ok () x:=fun b=>ZS (P:=Tryz.prog) (w:=x) vv (k:=I n) rfl b 9999;have g3:=ZT (P:=Tryz.prog) (w:=x) vv hf;have cz:(zeroValue p6).run Tryz.prog x=.ok GC x:=(by kernel_rfl);cases hi:A.findIdx? (fun y=>decide (n=y.1)) with
  |none=>
   have hn:mj A n=none:=(by unfold mj;rw[Yq] at hi;rw[List.find?_eq_none.2 (fun y hy=>by simpa using hi y hy)];rfl);rw[hi] at g3;simp[Instr.lookup,jC Oo,go_sem,g1,g2,g3,cz,hn,Result.andThen]
  |some j=>
   have hn:(mj A n).isSome=true:=(by unfold mj;rw[Option.isSome_map,List.find?_isSome];obtain⟨b1,cw,_⟩:=List.findIdx?_eq_some_iff_getElem.1 hi;exact⟨A[j],kT _,cw⟩);rw[hi] at g3;simp[Instr.lookup,jC Oo,go_sem,g1,g2,g3,cz,hn,Result.andThen]
 have bt:=aC n;cases ha:ap n with
 |none=>
  rw[ha] at bt;refine⟨GC,fun x hx=>?_,rfl⟩;have:=key x hx;rw[bt] at this;exact this
 |some a=>
  rw[ha] at bt;obtain⟨v,cr,c4⟩:=bt;refine⟨v,fun x hx=>?_,c4⟩;have:=key x hx;rw[cr] at this;exact this
theorem qQ.aka{R:afp}{ap:Int→Option vc}(h:qQ R w m ap)(hm:¬R m)(n:Int){a:vc}{v:ada}(aY:GD R w v a):
  ∃cc,(Instr.mapUpdate JW (.map (some m)) (I n) v).run Tryz.prog w=.ok () cc∧qQ R cc m (fun j=>if j=n then some a else ap j)∧aP (fun b=>b≠m) w cc:=by
 obtain⟨es,c,A,av,az,aC⟩:=h;have hf:=S9 n A es.toList 0 az;have g1:=ZR (P:=Tryz.prog) av;have g2:(Instr.checkKey false 10000 3 (I n)).run Tryz.prog w=.ok () w:=ZS (P:=Tryz.prog) (w:=w) vv (k:=I n) rfl false 9999;have g3:=ZT (P:=Tryz.prog) (w:=w) vv hf;have bR:=lt_of_heap av;have zX:∀p4 c',aP (fun b=>b≠m) w {w with heap:=w.heap.setIfInBounds m (.map p4 c')}:=fun p4 c'=>⟨rfl,rfl,rfl,by simp,fun b ax _=>by show (w.heap.setIfInBounds m _)[b]?=_;rw[yN,aW (gu ax)]⟩;have JX:∀p4 c',({w with heap:=w.heap.setIfInBounds m (.map p4 c')}:aeo).heap[m]?=some (.map p4 c'):=fun p4 c'=>by show (w.heap.setIfInBounds m _)[m]?=_;rw[yN,bb rfl,bb bR]
 have rB:∀p4 c',aP R w {w with heap:=w.heap.setIfInBounds m (.map p4 c')}:=fun p4 c'=>(zX p4 c').mono fun k _ ay e=>hm (e ▸ ay)
 have ix:∀p4 c',∀k,match (fun j=>if j=n then some a else ap j) k with
   |none=>mj (sV A n v) k=none
   |some a=>∃v',mj (sV A n v) k=some v'∧GD R {w with heap:=w.heap.setIfInBounds m (.map p4 c')} v' a:=by
  intro p4 c' k;simp only[ZW];have e4:∀(v:ada) (a:vc),GD R w v a→GD R {w with heap:=w.heap.setIfInBounds m (.map p4 c')} v a:=(by rintro v a ⟨pl,cl,pp,cp,lH,co,c4,ez,eS,fM⟩;exact⟨pl,cl,pp,cp,lH,co,c4,ez.keep (rB _ _),eS.keep (rB _ _),fM⟩);by_cases ay:k=n
  ·simp only[ay,Ga];exact⟨v,rfl,e4 _ _ aY⟩
  ·simp only[ay,if_false];have bt:=aC k;cases ha:ap k with
   |none=>rw[ha] at bt;exact bt
   |some b=>
    rw[ha] at bt;obtain⟨v',cr,c4⟩:=bt;exact⟨v',cr,e4 _ _ c4⟩
 cases hi:A.findIdx? (fun y=>decide (n=y.1)) with
 |none=>
  rw[hi] at g3;refine⟨{w with heap:=w.heap.setIfInBounds m (.map (es.push {key:=I n,val:=v,born:=c}) (c+1))},?_,⟨_,_,sV A n v,JX _ _,?_,ix _ _⟩,zX _ _⟩
  ·simp[Instr.mapUpdate,jC Oo,go_sem,g1,g2,g3,NC _ av,Result.andThen]
  ·unfold sV;rw[hi];simp only[Array.toList_push,qI,az,yh,yO]
 |some j=>
  rw[hi] at g3;obtain⟨b1,cw,_⟩:=List.findIdx?_eq_some_iff_getElem.1 hi;have lX:j<es.toList.length:=(by have:=fp List.length az;simp only[gO] at this;omega);have H5:(es[j]?).map (·.key)=some (I n):=(by have cr:=fp (fun l=>l[j]?) az;simp only[xb,mx lX,mx b1,yH,n7,gh] at cr;have c4:es[j]?=some es.toList[j]:=(by rw[←vw,mx lX]);rw[c4,yH,cr.1];have:n=A[j].1:=(by simpa using cw);rw[this]);have kK:∀x:aeo,(Instr.keyThatStays (I n) (I n)).run Tryz.prog x=.ok (I n) x:=(fun x=>by simp[Instr.keyThatStays,Instr.sameBits]);refine⟨{w with heap:=w.heap.setIfInBounds m (.map (es.modify j fun e=>{e with key:=I n,val:=v}) c)},?_,⟨_,_,sV A n v,JX _ _,?_,ix _ _⟩,zX _ _⟩
  ·simp[Instr.mapUpdate,jC Oo,go_sem,g1,g2,g3,H5,kK,NC _ av,Result.andThen]
  ·unfold sV;rw[hi];apply FJ;intro n';have cr:=fp (fun l=>l[n']?) az;simp only[xb,Array.toList_modify,List.getElem?_modify,List.getElem?_set] at cr⊢;by_cases hn:j=n'
   ·subst hn;rw[mx lX];simp[b1]
   ·simp only[hn,if_false] at cr⊢;simpa using cr
end dd
namespace dd
open Go.RowKit ef
open iS (gY oB mi)
open ct (eC)
abbrev yY:TypeId:=166
abbrev nU:TypeId:=169
abbrev rV:TypeId:=266
theorem oB.aX{B:Nat}{w w':aeo}{p:Ja}{l:List (Int×Int)}(h:oB B w p l)(ax:ao w w w'):oB B w' p l:=fun aA=>by obtain⟨b,o,cs,e,av,az,aC⟩:=h aA;exact⟨b,o,cs,e,av,aU az ax,aC⟩
theorem mi.aX{B:Nat}{w w':aeo}{p:Ja}{l:List (List (Int×Int))}(h:mi B w p l)(ax:ao w w w'):mi B w' p l:=fun aA=>by obtain⟨b,o,cs,e,av,az,aC⟩:=h aA;refine⟨b,o,cs,e,av,aU az ax,fun i hi=>?_⟩;obtain⟨q,c,bt,cr⟩:=aC i hi;exact⟨q,c,bt,oB.aX cr ax⟩
theorem gY.aX{B:Nat}{w w':aeo}{p:Ja}{l:List eC}(h:gY B w p l)(ax:ao w w w'):gY B w' p l:=fun aA=>by obtain⟨b,o,cs,e,av,az,aC⟩:=h aA;refine⟨b,o,cs,e,av,aU az ax,fun i hi=>?_⟩;obtain⟨q,c,bt,cr,c4,ez,eS⟩:=aC i hi;exact⟨q,c,bt,cr,c4,ez,mi.aX eS ax⟩
def xw(w0:aeo):List lI→aev→Prop
 |[],xs=>xs=[]
 |a::l,xs=>∃q c fy,xs=aa ⟨a.name.toArray⟩::ad q a.b.length c::fy∧gY 0 w0 q a.b∧xw w0 l fy
theorem xw.snoc{w0:aeo}{a:lI}{q:Ja}{c:Nat}(ax:gY 0 w0 q a.b):∀{l:List lI} {xs:aev},xw w0 l xs→xw w0 (l++[a]) (xs++[aa ⟨a.name.toArray⟩,ad q a.b.length c])
 |[],_,h=>by subst h;exact⟨q,c,[],rfl,ax,rfl⟩
 |_::_,_,⟨jD,c',fy,av,az,aC⟩=>⟨jD,c',fy++[aa ⟨a.name.toArray⟩,ad q a.b.length c],by rw[av];rfl,az,xw.snoc ax aC⟩
theorem xw.get{w0:aeo}:∀{l:List lI} {xs:aev},xw w0 l xs→∀i (hi:i<l.length),∃q c,xs[i *2]?=some (aa ⟨l[i].name.toArray⟩)∧xs[i *2+1]?=some (.slice q l[i].b.length c)∧gY 0 w0 q l[i].b
 |[],_,_,i,hi=>absurd hi (my _)
 |a::l,_,⟨q,c,fy,av,az,aC⟩,0,_=>⟨q,c,by rw[av];rfl,by rw[av];rfl,az⟩
 |a::l,xs,⟨q,c,fy,av,az,aC⟩,i+1,hi=>by
  obtain⟨jD,c',bt,cr,c4⟩:=xw.get aC i (Aj hi);refine⟨jD,c',?_,?_,c4⟩
  ·rw[av,show (i+1) *2=i *2+2 by omega];exact bt
  ·rw[av,show (i+1) *2+1=i *2+1+2 by omega];exact cr
abbrev BZ(v:pV)(ov:ada):List Value:=[U v.step,I v.code,I v.n,I v.m,I v.fj.1,I v.fj.2,ov]
def oD(R:afp)(B:Nat)(w:aeo):List pV→aev→List Nat→Prop
 |[],gE,hs=>gE=[]∧hs=[]
 |v::l,gE,hs=>∃rW gs ov ox,gE=rW++BZ v ov∧hs=ov.ownBlock.toList++gs∧w.ownsRow B dq 11 ov v.fk.length ox∧ds R w (pB v.fk) ox∧oD R B w l rW gs
theorem oD.keep{R S:afp}{B:Nat}{w w':aeo}(ay:aP S w w')(hR:∀k,R k→S k):∀{l:List pV} {gE:aev} {hs:List Nat},oD R B w l gE hs→(∀k,k∈hs→S k)→oD R B w' l gE hs
 |[],_,_,h,_=>h
 |v::l,gE,hs,⟨rW,gs,ov,ox,av,az,aC,bt,cr⟩,hS=>⟨rW,gs,ov,ox,av,az,nT aC ay fun k e=>hS k (by rw[az,e];simp),bt.keep (ay.mono fun k _=>hR k),oD.keep ay hR cr fun k hm=>hS k (by rw[az];simp[hm])⟩
theorem oD.mono{R S:afp}{B:Nat}{w:aeo}(hR:∀k,R k→S k):∀{l:List pV} {gE:aev} {hs:List Nat},oD R B w l gE hs→oD S B w l gE hs
 |[],_,_,h=>h
 |v::l,gE,hs,⟨rW,gs,ov,ox,av,az,aC,bt,cr⟩=>⟨rW,gs,ov,ox,av,az,aC,bt.mono fun k _=>hR k,oD.mono hR cr⟩
theorem oD.D7{R:afp}{B:Nat}{w:aeo}:∀{l:List pV} {gE:aev} {hs:List Nat},oD R B w l gE hs→∀k,k∈hs→B≤k∧k<w.heap.size∧∃cur,w.heap[k]?=some (.cells cur dq (0,0))
 |[],_,_,⟨_,h⟩,k,ay=>by rw[h] at ay;cases ay
 |v::l,gE,hs,⟨rW,gs,ov,ox,av,az,aC,bt,cr⟩,k,ay=>by
  rw[az,List.mem_append] at ay;rcases ay with ay|ay
  ·exact vI aC (by simpa[Option.mem_toList] using ay)
  ·exact oD.D7 cr k ay
theorem oD.len{R:afp}{B:Nat}{w:aeo}:∀{l:List pV} {gE:aev} {hs:List Nat},oD R B w l gE hs→gE.length=l.length *7
 |[],_,_,⟨h,_⟩=>by rw[h];rfl
 |v::l,gE,hs,⟨rW,gs,ov,ox,av,az,aC,bt,cr⟩=>by have e:=oD.len cr;rw[av,iv,e,show (v::l).length=l.length+1 from rfl,S8];rfl
structure qR where
 b:Nat
 n:Nat
 c:Nat
 gE:List Value
 hs:List Nat
 e4:Value
 bB:List Value
abbrev S'(p:cT)(fu:Int)(m:Nat)(L:qR)(cv:ada):Array Value:= #[I p.unit,I fu,I p.kF,I p.fd,U p.eJ,U p.formed,.map (some m),I p.tM,L.e4,I p.at_.1,I p.at_.2,I p.mode,U p.Rl,U p.jw,U p.dk.bB,U p.dk.bW,I p.dk.q,I p.dk.fj.1,I p.dk.fj.2,U p.region,cv,ad (some (aj L.b 0)) L.n L.c,I p.made,I p.budget,U p.ended]
structure Oq(P m:Nat)(L:qR)(cv ov:ada)(k:Nat):Prop where
 JY:k≠P
 Ta:k≠m
 ZX:k≠L.b
 akb:cv.ownBlock≠some k
 JZ:ov.ownBlock≠some k
 ZY:L.e4.ownBlock≠some k
 akc:k ∉ L.hs
structure gp(w0:aeo)(P:Nat)(R:afp)(m:Nat)(L:qR)(fu:Int)(cv ov:ada)(cx ox:aev)(p:cT)(w:aeo):Prop where
 pl:an w P (S' p fu m L cv) yY
 mp:qQ R w m p.jv
 qS:L.n=p.levels.length+1
 gS:w.ownsRow w0.heap.size nU 7 (ag L.b 0 L.n L.c) L.n (L.gE++BZ p.top ov)
 mM:oD R w0.heap.size w p.levels L.gE L.hs
 yZ:∀k,k∈L.hs→ov.ownBlock≠some k
 Al:L.hs.Nodup
 bz:xv R w0.heap.size w cv p.rk cx
 aB:w.ownsRow w0.heap.size dq 11 ov p.top.fk.length ox
 sW:ds R w (pB p.top.fk) ox
 hC:w.ownsRow w0.heap.size rV 2 L.e4 p.fU.length L.bB
 xx:xw w0 p.fU L.bB
 nr:∀k,R k→w0.heap.size≤k∧k<w.heap.size
 ml:∀k,R k→Oq P m L cv ov k
 xy:w0.heap.size≤P
 rq:w0.heap.size≤m
 aX:ao w0 w0 w
def oE(w0:aeo)(P:Nat)(p:cT)(w:aeo):Prop:=∃R m L fu cv ov cx ox,gp w0 P R m L fu cv ov cx ox p w
section
variable{w0:aeo}{P:Nat}{R:afp}{m:Nat}{L:qR}{fu:Int}{cv ov:ada}{cx ox:aev}{p:cT}{w:aeo}
theorem gp.Tb(h:gp w0 P R m L fu cv ov cx ox p w):w0.heap.size≤L.b∧∃cur,w.heap[L.b]?=some (.cells cur nU (0,0)):=sU h.gS
theorem gp.kinds(h:gp w0 P R m L fu cv ov cx ox p w):(∃cs,w.heap[P]?=some (.cells cs yY (0,0)))∧(∃es c,w.heap[m]?=some (.map es c))∧(∃cs,w.heap[L.b]?=some (.cells cs nU (0,0)))∧(∀k,cv.ownBlock=some k→∃cs,w.heap[k]?=some (.cells cs kW (0,0)))∧(∀k,ov.ownBlock=some k→∃cs,w.heap[k]?=some (.cells cs dq (0,0)))∧(∀k,L.e4.ownBlock=some k→∃cs,w.heap[k]?=some (.cells cs rV (0,0)))∧∀k,k∈L.hs→∃cs,w.heap[k]?=some (.cells cs dq (0,0)):=
 ⟨⟨_,h.pl⟩,h.mp.map,h.Tb.2,fun k e=>(vI h.bz.own e).2.2,fun k e=>(vI h.aB e).2.2,fun k e=>(vI h.hC e).2.2,fun k ay=>(h.mM.D7 k ay).2.2⟩
theorem gp.akd(h:gp w0 P R m L fu cv ov cx ox p w){k:Nat}{cs:ajv}{t:aai}{dT:Nat×Nat}(ay:w.heap[k]?=some (.cells cs t dT))(av:t≠yY)(az:t≠nU)(aC:t≠kW)(bt:t≠dq)(cr:t≠rV):Oq P m L cv ov k:=by obtain⟨⟨_,bA⟩,⟨_,_,a2⟩,⟨_,a3⟩,a4,a5,rh,pT⟩:=h.kinds;exact⟨oC ay bA av,Ak ay a2,oC ay a3 az,rU h.bz.own ay (gu aC),rU h.aB ay (gu bt),rU h.hC ay (gu cr),fun hm=>by obtain⟨c,hc⟩:=pT k hm;exact oC ay hc bt rfl⟩
theorem gp.ake(h:gp w0 P R m L fu cv ov cx ox p w){k:Nat}(ay:w.heap.size≤k):Oq P m L cv ov k:=by
 obtain⟨⟨_,bA⟩,⟨_,_,a2⟩,⟨_,a3⟩,a4,a5,rh,pT⟩:=h.kinds;refine⟨fun e=>?_,fun e=>?_,fun e=>?_,fun e=>?_,fun e=>?_,fun e=>?_,fun e=>?_⟩
 ·have:=lt_of_heap bA;omega
 ·have:=lt_of_heap a2;omega
 ·have:=lt_of_heap a3;omega
 ·obtain⟨_,hc⟩:=a4 k e;have:=lt_of_heap hc;omega
 ·obtain⟨_,hc⟩:=a5 k e;have:=lt_of_heap hc;omega
 ·obtain⟨_,hc⟩:=rh k e;have:=lt_of_heap hc;omega
 ·obtain⟨_,hc⟩:=pT k e;have:=lt_of_heap hc;omega
theorem gp.below(h:gp w0 P R m L fu cv ov cx ox p w){w':aeo}(ax:ao w w w'):gp w0 P R m L fu cv ov cx ox p w':=
 have ay:aP (fun _=>True) w w':=.dW ax
 {h with pl:=aU h.pl ax,mp:=h.mp.keep ay trivial (fun _ _=>trivial),gS:=gC h.gS ax,mM:=h.mM.keep ay (fun _ _=>trivial) (fun _ _=>trivial),bz:=h.bz.below ax,aB:=gC h.aB ax,sW:=h.sW.below ax,hC:=gC h.hC ax,nr:=fun k ay=>⟨(h.nr k ay).1,km (h.nr k ay).2 ax.size⟩,aX:=h.aX.trans (ax.mono h.aX.size)}
variable{w':aeo}
theorem gp.fresh(h:gp w0 P R m L fu cv ov cx ox p w)(ax:ao w w w'):gp w0 P (fun k=>R k∨(w.heap.size≤k∧k<w'.heap.size)) m L fu cv ov cx ox p w':=
 have fD:=h.below ax
 {fD with
  mp:=fD.mp.mono fun k ay=>.inl ay
  mM:=fD.mM.mono fun k ay=>.inl ay
  bz:=by
   refine⟨fD.bz.own,fun i hi=>?_,fun i hi he=>?_⟩
   ·obtain⟨q,c,a7,bf,cM⟩:=fD.bz.init i hi;exact⟨q,c,a7,bf,cM.mono fun k _ ay=>.inl ay⟩
   ·obtain⟨g,c,a7,bf,cM⟩:=h.bz.last i hi he;exact⟨g,c,a7,gC bf ax,fun ay=>ay.elim cM fun ay=>absurd (vI bf (k:=g) rfl).2.1 (Nat.not_lt.2 ay.1)⟩
  sW:=fD.sW.mono fun k _ ay=>.inl ay
  nr:=fun k ay=>ay.elim (fD.nr k) fun ay=>⟨dx h.aX.size ay.1,ay.2⟩
  ml:=fun k ay=>ay.elim (h.ml k) fun ay=>h.ake ay.1}
theorem gp.GF(h:gp w0 P R m L fu cv ov cx ox p w){ik:cT}{ZZ:Int}(ay:aP (fun k=>k≠P) w w')(hp:an w' P (S' ik ZZ m L cv) yY)(av:ik.rk=p.rk)(az:ik.top=p.top)(aC:ik.jv=p.jv)(bt:ik.levels=p.levels)(cr:ik.fU=p.fU):gp w0 P R m L ZZ cv ov cx ox ik w':=
 have hR:∀k,R k→k≠P:=fun k ay=>(h.ml k ay).JY
 {pl:=hp
  mp:=by rw[aC];exact h.mp.keep ay (by obtain⟨es,c,hm⟩:=h.mp.map;exact (Ak h.pl hm).symm) hR
  qS:=by rw[bt];exact h.qS
  gS:=by rw[az];exact nT h.gS ay fun k e=>fun bf=>rU h.gS h.pl (by decide) (bf ▸ e)
  mM:=by rw[bt];exact h.mM.keep ay hR fun k hm e=>by obtain⟨_,_,c,hc⟩:=h.mM.D7 k hm;exact oC hc h.pl (by decide) e
  yZ:=h.yZ
  Al:=h.Al
  bz:=by rw[av];exact h.bz.keep ay hR (fun k cur t aK bE=>oC aK h.pl (by rcases bE with rfl|rfl<;>decide))
  aB:=by rw[az];exact nT h.aB ay fun k e=>fun bf=>rU h.aB h.pl (by decide) (bf ▸ e)
  sW:=by rw[az];exact h.sW.keep (ay.mono fun k _ Ot=>hR k Ot)
  hC:=by rw[cr];exact nT h.hC ay fun k e=>fun bf=>rU h.hC h.pl (by decide) (bf ▸ e)
  xx:=by rw[cr];exact h.xx
  nr:=fun k J0=>⟨(h.nr k J0).1,km (h.nr k J0).2 ay.size⟩
  ml:=h.ml
  xy:=h.xy
  rq:=h.rq
  aX:=h.aX.trans (ay.below _ h.aX.size fun k fs e=>by have:=h.xy;omega)}
theorem gp.Tc(h:gp w0 P R m L fu cv ov cx ox p w){l:Nat}(aA:p.levels.length=l)(j:Nat)(cd:j<7):w.cell? ⟨L.b,l *7+j,none⟩=(BZ p.top ov)[j]?∧w.frozen? ⟨L.b,l *7+j,none⟩=false:=by have hlen:=h.mM.len;have hn:=h.qS;refine⟨?_,h.gS.frozenAt _⟩;rw[h.gS.cellAt (l *7+j) (by omega),A8 (by omega),hlen,aA,ND]
end
theorem oE.below{w0:aeo}{P:Nat}{p:cT}{w w':aeo}(h:oE w0 P p w)(ax:ao w w w'):oE w0 P p w':=by obtain⟨R,m,L,fu,cv,ov,cx,ox,h⟩:=h;exact⟨R,m,L,fu,cv,ov,cx,ox,h.below ax⟩
def jM(w0:aeo)(P:Nat)(res:Except Nat cT)(e:Ending)(w':aeo):Prop:=Below w0.heap.size w0 w'∧match res with
 |.ok q=>e=ab (I 0)∧oE w0 P q w'
 |.error k=>e=ab (I (k:Int))
def vJ(w0:aeo)(P:Nat)(R Q:afp)(w:aeo)(res:Except Nat cT)(e:Ending)(w':aeo):Prop:=Below w0.heap.size w0 w'∧aP Q w w'∧match res with
 |.ok q=>e=ab (I 0)∧∃R' m L fu cv ov cx ox,(∀k,R k→R' k)∧gp w0 P R' m L fu cv ov cx ox q w'
 |.error k=>e=ab (I (k:Int))
theorem vJ.res{w0:aeo}{P:Nat}{R Q:afp}{w w':aeo}{res:Except Nat cT}{e:Ending}(h:vJ w0 P R Q w res e w'):jM w0 P res e w':=by
 obtain⟨av,_,az⟩:=h;refine⟨av,?_⟩;cases res with
 |ok q=>
  obtain⟨aC,R',m,L,fu,cv,ov,cx,ox,_,bt⟩:=az;exact⟨aC,_,_,_,_,_,_,_,_,bt⟩
 |error k=>exact az
variable{w0 w':aeo}{P:Nat}{res:Except Nat cT}{e:Ending}
theorem vJ.wide{R gR Q Z0:afp}{w X:aeo}(h:vJ w0 P gR Z0 X res e w')(c7:ao w w X)(av:∀k,Q k→k<X.heap.size→Z0 k)(az:∀k,R k→gR k):vJ w0 P R Q w res e w':=by
 obtain⟨a,b,c⟩:=h;refine⟨a,(aP.dW c7).trans (b.mono fun k aA ay=>av k ay aA),?_⟩;cases res with
 |ok q=>
  obtain⟨e,R',m,L,fu,cv,ov,cx,ox,g,h⟩:=c;exact⟨e,R',m,L,fu,cv,ov,cx,ox,fun k ay=>g k (az k ay),h⟩
 |error k=>exact c
theorem jM.B0{R:afp}{m:Nat}{L:qR}{fu:Int}{cv ov:ada}{cx ox:aev}{p:cT}{w:aeo}(he:e=ab (I 0))(h:gp w0 P R m L fu cv ov cx ox p w):jM w0 P (.ok p) e w:=⟨h.aX,he,_,_,_,_,_,_,_,_,h⟩
theorem jM.get(h:jM w0 P res e w'){q:cT}(aR:res=.ok q):e=ab (I 0)∧oE w0 P q w':=by subst aR;exact h.2
theorem jM.err(h:jM w0 P res e w'){k:Nat}(aR:res=.error k):e=ab (I (k:Int)):=by subst aR;exact h.2
theorem jM.ret(h:jM w0 P res e w'):∃v:Int,e=ab (I v):=by
 cases res with
 |ok q=>exact⟨0,h.2.1⟩
 |error k=>exact⟨(k:Int),h.2⟩
end dd
namespace dd
open Go.RowKit ef
variable{w:aeo}{xs:aev}
theorem akf{B g n c bD:Nat}{e:aai}{Z V:aev}(h:w.ownsRow B e bD (ag g 0 (n+1) c) (n+1) (xs++Z))(hx:xs.length=n *bD)(aY:V.length=bD):(iL w g (n *bD) V).ownsRow B e bD (ag g 0 (n+1) c) (n+1) (xs++V):=by
 have Ou:(n+1) *bD=n *bD+bD:=S8 n bD;refine⟨by rw[iv,hx,aY,Ou],?_⟩;rcases h.2 with ⟨aY,_⟩|⟨k,cap,cur,ay,bK,aK,av,az,aC,bt⟩
 ·cases aY
 ·injection ay with ej _ fs;injection ej with ej;injection ej with ej;subst ej fs;have iF:n *bD+V.length≤cur.size:=(by rw[aY,aC,←Ou];exact Nat.mul_le_mul_right _ av);refine .inr ⟨g,c,_,rfl,bK,FT V aK,av,az,by rw[IM];exact aC,?_⟩;have hd:=Xy (vs:=V) iF;rw[aY] at hd;rw[Ou,List.take_add,Xx (bx _),hd]
  congr 1
  have:=fp (List.take (n *bD)) bt;rw[CU,A7 (by rw[Ou];omega),List.take_left' hx] at this;exact this
theorem akg{B g n c:Nat}{e:aai}{z0 z1 z2 z3 z4 z5 ns mN mm z9 lv:ada}(h:w.ownsRow B e 11 (ag g 0 (n+1) c) (n+1) (xs++[z0,z1,z2,z3,z4,z5,ns,mN,mm,z9,lv]))(hx:xs.length=n *11):
  ak w g (n *11) z0∧ak w g (n *11+1) z1∧ak w g (n *11+2) z2∧ak w g (n *11+3) z3∧ak w g (n *11+4) z4∧ak w g (n *11+5) z5∧ak w g (n *11+6) ns∧ak w g (n *11+7) mN∧ak w g (n *11+8) mm∧ak w g (n *11+9) z9∧ak w g (n *11+10) lv:=by
 have key:∀j,j<11→w.cell? ⟨g,n *11+j,none⟩=[z0,z1,z2,z3,z4,z5,ns,mN,mm,z9,lv][j]?:=by intro j cd;rw[h.cellAt (n *11+j) (by omega),A8 (by omega),hx,ND]
 exact⟨key 0 (by decide),key 1 (by decide),key 2 (by decide),key 3 (by decide),key 4 (by decide),key 5 (by decide),key 6 (by decide),key 7 (by decide),key 8 (by decide),key 9 (by decide),key 10 (by decide)⟩
theorem set_comm{i j a b:Nat}{u v:ada}(h:i≠j):(w.setCell (aj i a) u).setCell (aj j b) v=(w.setCell (aj j b) v).setCell (aj i a) u:=by
 unfold World.setCell;simp only
 congr 1
 apply Rf;intro k;rw[zj,zj,zj,zj];by_cases av:i=k
 ·subst av;rw[aW (gu h),aW (gu h)]
 ·rw[aW av,aW av]
theorem Z1{b L o:Nat}{u:ada}(h:L≠b):∀(vs:aev) {w:aeo} {m:Nat},iL (w.setCell (aj L o) u) b m vs=(iL w b m vs).setCell (aj L o) u
 |[],_,_=>rfl
 |v::vs,w,m=>by show iL ((w.setCell (aj L o) u).setCell (aj b m) v) b (m+1) vs=(iL (w.setCell (aj b m) v) b (m+1) vs).setCell (aj L o) u;rw[set_comm h];exact Z1 h vs
theorem akh{R:afp}{l:List eu}{ox V:aev}{d:Bool}{bs:dm}{s:bk}{pl:Ja}{cl:Nat}{pp:Ja}{cp:Nat}(h:ds R w (pB l) ox)(aA:ox.length=l.length *11)(nk:V=U d::lF bs (ad pl bs.l.length cl) (ad pp s.len cp))(ax:dE R w pl cl pp cp ⟨bs,s⟩):ds R w (pB (l++[(d,⟨bs,s⟩)])) (ox++V):=by rw[I8];refine ds.append h (by rw[aA,Ds]) ?_;subst nk;exact ds.mk (S:=R) (w:=w) (a:=d) (b:=bs) (s:=s) (r:=.nil) (pl:=pl) (cl:=cl) (pp:=pp) (cp:=cp) (by rfl) ax trivial
theorem aki{B K n c i bD:Nat}{e:aai}{u:ada}(h:w.ownsRow B e bD (ag K 0 n c) n xs)(hi:i<n *bD):(w.setCell (aj K i) u).ownsRow B e bD (ag K 0 n c) n (xs.set i u):=by
 refine⟨by rw[L8];exact h.1,?_⟩;rcases h.2 with ⟨aY,_⟩|⟨k,cap,cur,ay,bK,aK,av,az,aC,bt⟩
 ·cases aY
 ·injection ay with ej _ fs;injection ej with ej;injection ej with ej;subst ej fs;refine .inr ⟨K,c,cur.setIfInBounds i u,rfl,bK,dt u aK,av,az,by rw[yp];exact aC,?_⟩;rw[L7,Qw,bt]
theorem akj{gE:aev}{l:Nat}(aA:gE.length=l *7)(v:pV)(ov Ov:ada)(nD:List eu):(gE++BZ v ov).set (l *7+6) Ov=gE++BZ {v with fk:=nD} Ov:=by rw[R0 _ _ (by omega),aA,ND];rfl
theorem gp.zR{w0:aeo}{P:Nat}{R:afp}{m:Nat}{L:qR}{fu:Int}{cv ov:ada}{cx ox:aev}{p:cT}{X cW:aeo}{n l ed c:Nat}{Z V:aev}{d:Bool}{bs:dm}{s:bk}{pl:Ja}{cl:Nat}{pp:Ja}{cp:Nat}
  (h:gp w0 P R m L fu cv ov cx ox p X) (hn:p.top.fk.length=n) (aA:p.levels.length=l) (aF:X.grownBy cW ov.ownBlock) (c0:cW.ownsRow w0.heap.size dq 11 (ag ed 0 (n+1) c) (n+1) (ox++Z)) (hw:some ed=ov.ownBlock∨X.heap.size≤ed)
  (nk:V=U d::lF bs (ad pl bs.l.length cl) (ad pp s.len cp)) (ax:dE R X pl cl pp cp ⟨bs,s⟩):
  aP R X ((iL cW ed (n *11) V).setCell (aj L.b (l *7+6)) (ag ed 0 (n+1) c))∧
  gp w0 P R m L fu cv (ag ed 0 (n+1) c) cx (ox++V) {p with top:={p.top with fk:=p.top.fk++[(d,⟨bs,s⟩)]}} ((iL cW ed (n *11) V).setCell (aj L.b (l *7+6)) (ag ed 0 (n+1) c)):=by
 have akk:V.length=11:=by rw[nk];rfl
 have Z2:ox.length=n *11:=by rw[h.aB.1,hn]
 have Z3:=akf c0 Z2 akk;obtain⟨yQ,cur,gJ⟩:=sU c0;obtain⟨_,Zn,awy⟩:=sU Z3;obtain⟨awz,awA,Ow⟩:=h.Tb;obtain⟨es,D8,sX⟩:=h.mp.map;have Mn:L.gE.length=l *7:=by rw[h.mM.len,aA]
 have pP:L.n=l+1:=by rw[h.qS,aA]
 have Z4:¬R ed:=by
  rcases hw with e|e
  ·exact fun ay=>(h.ml ed ay).JZ e.symm
  ·intro ay;have:=(h.nr ed ay).2;omega
 have Z5:∀k,k∈L.hs→k≠ed:=by
  intro k ay e;subst e;rcases hw with e|e
  ·exact h.yZ k ay e.symm
  ·have:=(h.mM.D7 k ay).2.1;omega
 have hne:∀k cs t dT,X.heap[k]?=some (.cells cs t dT)→t≠dq→ov.ownBlock≠some k∧k≠ed:=by intro k cs t dT ay bE;have av:=rU h.aB ay (gu bE);exact⟨av,oC ((aF.block k (lt_of_heap ay) (gu av)).trans ay) gJ bE⟩
 have Od:∀k es c,X.heap[k]?=some (.map es c)→ov.ownBlock≠some k∧k≠ed:=by intro k es c ay;have av:=ZV h.aB ay;exact⟨av,(Ak gJ ((aF.block k (lt_of_heap ay) (gu av)).trans ay)).symm⟩
 have D9:=hne _ _ _ _ Ow (by decide);have akl:aP (fun k=>ov.ownBlock≠some k∧k≠ed∧k≠L.b) X cW:=aP.grown aF fun k e ay=>ay.1 e;have akm:aP (fun k=>ov.ownBlock≠some k∧k≠ed∧k≠L.b) cW (iL cW ed (n *11) V):=wY (fun ay=>ay.2.1 rfl) V;have hK:aP (fun k=>ov.ownBlock≠some k∧k≠ed∧k≠L.b) X ((iL cW ed (n *11) V).setCell (aj L.b (l *7+6)) (ag ed 0 (n+1) c)):=(akl.trans akm).trans (aP.set (a:=⟨L.b,l *7+6,none⟩) (fun ay=>ay.2.2 rfl) _);have eD:World.ownsRow (iL cW ed (n *11) V) w0.heap.size nU 7 (ag L.b 0 L.n L.c) L.n (L.gE++BZ p.top ov):=nT (nT h.gS (aP.grown (S:=fun k=>ov.ownBlock≠some k) aF fun k e ay=>ay e) fun k e=>by have bf:L.b=k:=(by simpa[Value.ownBlock] using e);rw[←bf];exact D9.1) (wY (S:=fun k=>k≠ed) (fun ay=>ay rfl) V) fun k e=>by have bf:L.b=k:=(by simpa[Value.ownBlock] using e);rw[←bf];exact D9.2
 have Td:∀k cs t dT,X.heap[k]?=some (.cells cs t dT)→t≠dq→t≠nU→ov.ownBlock≠some k∧k≠ed∧k≠L.b:=fun k cs t dT ay av az=>⟨(hne k cs t dT ay av).1,(hne k cs t dT ay av).2,oC ay Ow az⟩;have GG:∀k,R k→ov.ownBlock≠some k∧k≠ed∧k≠L.b:=fun k ay=>⟨(h.ml k ay).JZ,fun e=>Z4 (e ▸ ay),(h.ml k ay).ZX⟩;have akn:∀k,k∈L.hs→ov.ownBlock≠some k∧k≠ed∧k≠L.b:=fun k ay=>⟨h.yZ k ay,Z5 k ay,by obtain⟨_,_,c,hc⟩:=h.mM.D7 k ay;exact oC hc Ow (by decide)⟩;have ako:(p.top.fk++[(d,(⟨bs,s⟩:eg))]).length=n+1:=by rw[iv,hn];rfl
 refine⟨hK.mono fun k _ ay=>GG k ay,?_⟩
 exact {
  pl:=hK.get (Td _ _ _ _ h.pl (by decide) (by decide)) h.pl
  mp:=h.mp.keep hK ⟨(Od _ _ _ sX).1,(Od _ _ _ sX).2,(Ak Ow sX).symm⟩ GG
  qS:=h.qS
  gS:=by have av:=aki (u:=ad (some (aj ed 0)) (n+1) c) (i:=l *7+6) eD (by omega);rw[akj Mn p.top ov _ (p.top.fk++[(d,⟨bs,s⟩)])] at av;exact av
  mM:=h.mM.keep hK GG akn
  yZ:=fun k ay e=>Z5 k ay (by simpa[Value.ownBlock] using e.symm)
  Al:=h.Al
  bz:=h.bz.keep hK GG (fun k cur t aK bE=>Td _ _ _ _ aK (by rcases bE with rfl|rfl<;>decide) (by rcases bE with rfl|rfl<;>decide))
  aB:=by show World.ownsRow _ _ _ _ _ (p.top.fk++[(d,(⟨bs,s⟩:eg))]).length _;rw[ako];refine nT Z3 (aP.set (S:=fun k=>k≠L.b) (a:=⟨L.b,l *7+6,none⟩) (fun ay=>ay rfl) _) fun k e bf=>?_;have:ed=k:=(by simpa[Value.ownBlock] using e);exact D9.2 (bf.symm.trans this.symm)
  sW:=akh (h.sW.keep (hK.mono fun k _ ay=>GG k ay)) (by rw[Z2,hn]) nk (ax.keep (hK.mono fun k _ ay=>GG k ay))
  hC:=nT h.hC hK fun k e=>by obtain⟨_,_,c,hc⟩:=vI h.hC e;exact Td _ _ _ _ hc (by decide) (by decide)
  xx:=h.xx
  nr:=fun k ay=>⟨(h.nr k ay).1,km (h.nr k ay).2 hK.size⟩
  ml:=fun k ay=>{h.ml k ay with JZ:=fun e=>Z4 ((show ed=k by simpa[Value.ownBlock] using e)▸ ay)}
  xy:=h.xy
  rq:=h.rq
  aX:=h.aX.trans (hK.below _ h.aX.size fun k ay=>⟨fun e=>by have:=(vI h.aB e).1;omega,by omega,by omega⟩)}
end dd
