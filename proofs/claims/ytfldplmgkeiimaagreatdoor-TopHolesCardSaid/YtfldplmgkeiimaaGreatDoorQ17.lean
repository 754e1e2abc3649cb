/- Lemmas. -/
import Derived.Test.YtfldplmgkeiimaaGreatDoorQ15
import Derived.Test.YtfldplmgkeiimaaGreatDoorQ16
import Derived.MapKept
set_option linter.all false
set_option maxRecDepth 100000
namespace Go.Proofs.YtfldplmgkeiimaaGreatDoor
abbrev abH:=@MapKept.run_getObj_map
abbrev abI:=@MapKept.run_checkKey
abbrev abJ:=@MapKept.run_findKey
abbrev PU:=@Proofs.Tryz.underlying158
abbrev BC:=@Nat.lt_of_succ_lt_succ
abbrev UN:=@Nat.succ_mul
abbrev UO:=@List.getLast?_eq_getElem?
namespace jj
open Go.RowKit pH kG qk Mem rG cf
def kS(T:aui)(w w':bTo):Prop:=w.heap.size≤w'.heap.size∧∀(k:Nat) (cs:agv) (t:aui) (ef:Nat×Nat),w.heap[k]?=some (Obj.cells cs t ef)→t≠T→w'.heap[k]?=some (.cells cs t ef)
variable{T:aui}{w w':bTo}
theorem kS.dM(h:av w w w'):kS T w w':=⟨h.size,fun k cs t ef ab _=>aO ab h⟩
theorem kS.trans{a b c:bTo}(h:kS T a b)(g:kS T b c):kS T a c:=⟨dX h.1 g.1,fun k cs t ef ab aa=>g.2 k cs t ef (h.2 k cs t ef ab aa) aa⟩
variable{B:Nat}{v:ada}
theorem kS.grown{bn n:Nat}{xs:bTv}(h:w.ownsRow B T bn v n xs)(aX:w.grownBy w' v.ownBlock):kS T w w':=
 ⟨aX.size,fun k cs t ef ab bH=>(aX.block k (Array.getElem?_eq_some_iff.1 ab).1 (fN (oR h ab (fN bH)))).trans ab⟩
theorem kS.set{b i:Nat}{cs:agv}{ef:Nat×Nat}(h:w.heap[b]?=some (.cells cs T ef))(u:ada):kS T w (w.setCell (ag b i) u):=by
 refine⟨by simp[World.setCell],fun k iw t Sk ab bH=>?_⟩;have ri:k≠b:=by intro e;rw[e,h] at ab;injection ab with ab;injection ab with _ aR _;exact bH aR.symm
 rw[jZ _ _ _ _ ri];exact ab
variable{p:aya}
theorem fa.keep{l:List Int}(h:fa B w p l)(ab:kS T w w')(fh:2≠T):fa B w' p l:=by intro aj;obtain⟨b,o,cs,rfl,bJ,aF,hc⟩:=h aj;exact⟨b,o,cs,rfl,bJ,ab.2 _ _ _ _ aF fh,hc⟩
def o0(B:Nat)(w:bTo)(p:aya)(l:List (Int×Int)):Prop:=0<l.length→∃(b o:Nat) (cs:agv),p=some ⟨b,o,none⟩∧B≤b∧bo w b cs 413∧∀i (hi:i<l.length),cs[o+i *2]?=some (I l[i].1)∧cs[o+i *2+1]?=some (I l[i].2)
theorem o0.nil(B:Nat)(w:bTo)(p:aya):o0 B w p []:=fun h=>absurd h (nz _)
theorem o0.keep{l:List (Int×Int)}(h:o0 B w p l)(ab:kS T w w')(fh:413≠T):o0 B w' p l:=by intro aj;obtain⟨b,o,cs,rfl,bJ,aF,hc⟩:=h aj;exact⟨b,o,cs,rfl,bJ,ab.2 _ _ _ _ aF fh,hc⟩
theorem o0.mono{D:Nat}{l:List (Int×Int)}(h:o0 B w p l)(bZ:D≤B):o0 D w p l:=by intro aj;obtain⟨b,o,cs,rfl,bJ,aF,hc⟩:=h aj;exact⟨b,o,cs,rfl,dX bZ bJ,aF,hc⟩
def mH(B:Nat)(w:bTo)(p:aya)(l:List (List (Int×Int))):Prop:=0<l.length→∃(b o:Nat) (cs:agv),p=some ⟨b,o,none⟩∧B≤b∧bo w b cs 345∧∀i (hi:i<l.length),∃q c,cs[o+i]?=some (.slice q l[i].length c)∧o0 B w q l[i]
theorem mH.nil(B:Nat)(w:bTo)(p:aya):mH B w p []:=fun h=>absurd h (nz _)
theorem mH.keep{T:aui}{B:Nat}{w w':bTo}{p:aya}{l:List (List (Int×Int))}(h:mH B w p l)(ab:kS T w w')(aa:413≠T)(ah:345≠T):mH B w' p l:=by intro aj;obtain⟨b,o,cs,rfl,bJ,aF,hc⟩:=h aj;refine⟨b,o,cs,rfl,bJ,ab.2 _ _ _ _ aF ah,fun i hi=>?_⟩;obtain⟨q,c,aC,bl⟩:=hc i hi;exact⟨q,c,aC,bl.keep ab aa⟩
theorem mH.mono{B D:Nat}{w:bTo}{p:aya}{l:List (List (Int×Int))}(h:mH B w p l)(bZ:D≤B):mH D w p l:=by intro aj;obtain⟨b,o,cs,rfl,bJ,aF,hc⟩:=h aj;refine⟨b,o,cs,rfl,dX bZ bJ,aF,fun i hi=>?_⟩;obtain⟨q,c,aC,bl⟩:=hc i hi;exact⟨q,c,aC,bl.mono bZ⟩
def hB(B:Nat)(w:bTo)(p:aya)(l:List eI):Prop:=0<l.length→∃(b o:Nat) (cs:agv),p=some ⟨b,o,none⟩∧B≤b∧bo w b cs 259∧
 ∀i (hi:i<l.length),∃q c,cs[o+i *4]?=some (I l[i].k)∧cs[o+i *4+1]?=some (I l[i].n)∧cs[o+i *4+2]?=some (au ⟨l[i].t.toArray⟩)∧cs[o+i *4+3]?=some (.slice q l[i].args.length c)∧mH B w q l[i].args
theorem hB.nil(B:Nat)(w:bTo)(p:aya):hB B w p []:=fun h=>absurd h (nz _)
theorem hB.keep{T:aui}{B:Nat}{w w':bTo}{p:aya}{l:List eI}(h:hB B w p l)(ab:kS T w w')(aa:413≠T)(ah:345≠T)(ax:259≠T):hB B w' p l:=by intro aj;obtain⟨b,o,cs,rfl,bJ,aF,hc⟩:=h aj;refine⟨b,o,cs,rfl,bJ,ab.2 _ _ _ _ aF ax,fun i hi=>?_⟩;obtain⟨q,c,cJ,aN,aR,cA,ha⟩:=hc i hi;exact⟨q,c,cJ,aN,aR,cA,ha.keep ab aa ah⟩
theorem hB.mono{B D:Nat}{w:bTo}{p:aya}{l:List eI}(h:hB B w p l)(bZ:D≤B):hB D w p l:=by intro aj;obtain⟨b,o,cs,rfl,bJ,aF,hc⟩:=h aj;refine⟨b,o,cs,rfl,dX bZ bJ,aF,fun i hi=>?_⟩;obtain⟨q,c,cJ,aN,aR,cA,ha⟩:=hc i hi;exact⟨q,c,cJ,aN,aR,cA,ha.mono bZ⟩
inductive ou(B:Nat)(w:bTo):List (Nat×C)→bTv→Prop
 |nil:ou B w [] []
 |cons {x:Nat×C} {l:List (Nat×C)} {p q:aya} {k m:Nat} {xs:bTv}:fa B w p x.2.cj→hB B w q x.2.blocks→ou B w l xs→
  ou B w (x::l) ((jk x.2 (x.1:Int) (ad p x.2.cj.length k) (ad q x.2.blocks.length m)).toList++xs)
variable{l:List (Nat×C)}
theorem ou.imp{D:Nat}{xs:bTv}(h:ou B w l xs)(aa:∀p n,fa B w p n→fa D w' p n)(ah:∀p n,hB B w p n→hB D w' p n):ou D w' l xs:=by
 induction h with
 |nil=>exact .nil
 |cons a b _ dc=>exact .cons (aa _ _ a) (ah _ _ b) dc
theorem ou.append{m:List (Nat×C)}{xs eS:bTv}(h:ou B w l xs)(g:ou B w m eS):ou B w (l++m) (xs++eS):=by
 induction h with
 |nil=>exact g
 |cons a b _ dc=>rw[JL,List.append_assoc];exact .cons a b dc
theorem ou.snoc{xs:bTv}(h:ou B w l xs)(x:Nat×C){q:aya}(k m:Nat)(hn:fa B w p x.2.cj)(af:hB B w q x.2.blocks):
  ou B w (l++[x]) (xs++(jk x.2 (x.1:Int) (ad p x.2.cj.length k) (ad q x.2.blocks.length m)).toList):=by
 have ah:=h.append (.cons (k:=k) (m:=m) hn af .nil)
 rwa [List.append_nil] at ah
theorem ou.amp{xs:bTv}(h:ou B w l xs)(af:av w w w'):ou B w' l xs:=
 h.imp (fun _ _ hn=>hn.below af) (fun _ _ hn=>hn.keep (T:=0) (.dM af) (by decide) (by decide) (by decide))
def jX(B:Nat)(w:bTo)(v:ada)(l:List (Nat×C)):Prop:=∃xs,w.ownsRow B 104 12 v l.length xs∧ou B w l xs
theorem jX.below(h:jX B w v l)(af:av w w w'):jX B w' v l:=by obtain⟨xs,aa,ah⟩:=h;exact⟨xs,fE aa af,ah.amp af⟩
theorem jX.nil(B:Nat)(w:bTo):jX B w cc []:=⟨[],⟨rfl,.inl ⟨rfl,rfl⟩⟩,.nil⟩
theorem jX.push{X:bTo}{v':ada}{xs:bTv}{x:Nat×C}{q:aya}{k m:Nat}(hx:w.ownsRow B 104 12 v l.length xs)(hr:ou B w l xs)(hn:fa B w p x.2.cj)(af:hB B w q x.2.blocks)(dp:av w w X)(aX:X.grownBy w' v.ownBlock)
  (bl:w'.ownsRow B 104 12 v' (l.length+1) (xs++(jk x.2 (x.1:Int) (ad p x.2.cj.length k) (ad q x.2.blocks.length m)).toList)):jX B w' v' (l++[x]):=by
 have hK:kS 104 w w':=(kS.dM dp).trans (.grown (fE hx dp) aX);refine⟨_,?_,(hr.imp (fun _ _ h=>h.keep hK (by decide)) (fun _ _ h=>h.keep hK (by decide) (by decide) (by decide))).snoc x k m (hn.keep hK (by decide)) (af.keep hK (by decide) (by decide) (by decide))⟩;rw[show (l++[x]).length=l.length+1 by simp];exact bl
theorem abK:(Tryz.prog.info? 104).map (fun i=>(i.zero,i.size,i.bytes))=some (some (.agg #[I 0,I 0,I 0,I 0,ai false,au ⟨#[]⟩,au ⟨#[]⟩,au ⟨#[]⟩,au ⟨#[]⟩,au ⟨#[]⟩,ay 0,ay 0]),12,168):=by kernel_rfl
end jj
namespace dE
open Go.RowKit el
open jj (hB o0 mH)
variable{w:bTo}{B bn n c m:Nat}{e:aui}{v:ada}
theorem ni{t:aui}{xs:bTv}(h:w.ownsRow B e bn v n xs){b:Nat}{cs:agv}{ef:Nat×Nat}(af:w.heap[b]?=some (.cells cs t ef))(he:e≠t):v.ownBlock≠some b:=by
 rcases h.2 with ⟨rfl,_⟩|⟨g,cap,cur,rfl,_,aF,_⟩
 ·simp[Value.ownBlock]
 ·intro ah;have:g=b:=(by simpa[Value.ownBlock] using ah);subst this;rw[af] at aF;injection aF with aF;injection aF with _ bH;exact he bH.symm
theorem PV{xs:bTv}(h:w.ownsRow B e bn v n xs){b:Nat}{es:Array MapEntry}(af:w.heap[b]?=some (.map es c)):v.ownBlock≠some b:=by
 rcases h.2 with ⟨rfl,_⟩|⟨g,cap,cur,rfl,_,aF,_⟩
 ·simp[Value.ownBlock]
 ·intro ah;have:g=b:=(by simpa[Value.ownBlock] using ah);subst this;rw[af] at aF;cases aF
theorem o1{g:Nat}{xs:bTv}(h:w.ownsRow B e bn (bG g 0 n c) m xs):B≤g∧∃cur,w.heap[g]?=some (.cells cur e (0,0)):=by
 rcases h.2 with ⟨aS,_⟩|⟨k,cap,cur,ab,bJ,aF,_⟩
 ·cases aS
 ·injection ab with eA _ ga;injection eA with eA;injection eA with eA;subst eA;exact⟨bJ,cur,aF⟩
theorem qS{xs:bTv}(h:w.ownsRow B e bn v n xs){k:Nat}(ab:v.ownBlock=some k):B≤k∧k<w.heap.size∧∃cur,w.heap[k]?=some (.cells cur e (0,0)):=by
 rcases h.2 with ⟨rfl,_⟩|⟨g,cap,cur,rfl,bJ,aF,_⟩
 ·simp[Value.ownBlock] at ab
 ·simp only[Value.ownBlock,mv] at ab;subst ab;exact⟨bJ,lt_of_heap aF,cur,aF⟩
theorem jb{i j:Nat}{a b:agv}{s t:aui}{f g:Nat×Nat}(aa:w.heap[i]?=some (.cells a s f))(ah:w.heap[j]?=some (.cells b t g))(h:s≠t):i≠j:=by rintro rfl;rw[aa] at ah;injection ah with ah;injection ah with _ ah;exact h ah
theorem sP{i j:Nat}{a:agv}{s:aui}{f:Nat×Nat}{es:Array MapEntry}(aa:w.heap[i]?=some (.cells a s f))(ah:w.heap[j]?=some (.map es c)):i≠j:=by rintro rfl;rw[aa] at ah;cases ah
theorem ke{S:Jp}{w':bTo}{xs:bTv}(h:w.ownsRow B e bn v n xs)(ab:aL S w w')(hS:∀k,v.ownBlock=some k→S k):w'.ownsRow B e bn v n xs:=by
 refine⟨h.1,?_⟩;rcases h.2 with aa|⟨g,cap,cur,rfl,bJ,aF,ah⟩
 ·exact .inl aa
 ·exact .inr ⟨g,cap,cur,rfl,bJ,ab.get (hS g rfl) aF,ah⟩
structure rN(R:Jp)(B:Nat)(w:bTo)(cv:ada)(cs:List (List bp))(xs:bTv):Prop where
 own:w.ownsRow B fo 1 cv cs.length xs
 init:∀i (hi:i+1<cs.length),∃q c,xs[i]?=some (.slice q cs[i].length c)∧cs[i].length≤c∧hX R w q cs[i]
 last:∀i (hi:i<cs.length),i+1=cs.length→∃g c,xs[i]?=some (.slice (some (ag g 0)) cs[i].length c)∧w.ownsRow B eE 2 (.slice (some (ag g 0)) cs[i].length c) cs[i].length (nP cs[i])∧¬R g
theorem rN.nil(R:Jp)(B:Nat)(w:bTo):rN R B w (ay 0) [] []:=⟨⟨rfl,.inl ⟨rfl,rfl⟩⟩,fun i hi=>absurd hi (l7 _),fun i hi=>absurd hi (l7 _)⟩
theorem rN.below{R:Jp}{B:Nat}{w w':bTo}{cv:ada}{cs:List (List bp)}{xs:bTv}(h:rN R B w cv cs xs)(af:av w w w'):rN R B w' cv cs xs:=by
 refine⟨fE h.own af,fun i hi=>?_,fun i hi he=>?_⟩
 ·obtain⟨q,c,aa,ah,ax⟩:=h.init i hi;exact⟨q,c,aa,ah,ax.below af⟩
 ·obtain⟨g,c,aa,ah,ax⟩:=h.last i hi he;exact⟨g,c,aa,fE ah af,ax⟩
theorem rN.keep{R S:Jp}{B:Nat}{w w':bTo}{cv:ada}{cs:List (List bp)}{xs:bTv}(h:rN R B w cv cs xs)(ab:aL S w w')(aa:∀k,R k→S k)(ah:∀k cur t,w.heap[k]?=some (.cells cur t (0,0))→(t=fo∨t=eE)→S k):rN R B w' cv cs xs:=by
 refine⟨ke h.own ab fun k e=>?_,fun i hi=>?_,fun i hi he=>?_⟩
 ·obtain⟨_,_,cur,aF⟩:=qS h.own e;exact ah _ _ _ aF (.inl rfl)
 ·obtain⟨q,c,aN,aR,cA⟩:=h.init i hi;exact⟨q,c,aN,aR,(cA.keep (ab.mono fun k _=>aa k))⟩
 ·obtain⟨g,c,aN,aR,cA⟩:=h.last i hi he;refine⟨g,c,aN,ke aR ab fun k e=>?_,cA⟩;obtain⟨_,_,cur,aF⟩:=qS aR e;exact ah _ _ _ aF (.inr rfl)
variable{R:Jp}
theorem rN.more{R':Jp}{cv:ada}{cs:List (List bp)}{xs:bTv}(h:rN R B w cv cs xs)(aa:∀k,R k→R' k)(ah:∀k cur,w.heap[k]?=some (.cells cur eE (0,0))→R' k→R k):rN R' B w cv cs xs:=by
 refine⟨h.own,fun i hi=>?_,fun i hi he=>?_⟩
 ·obtain⟨q,c,aN,aR,cA⟩:=h.init i hi;exact⟨q,c,aN,aR,cA.mono fun k _=>aa k⟩
 ·obtain⟨g,c,aN,aR,cA⟩:=h.last i hi he;obtain⟨_,cur,aF⟩:=o1 aR;exact⟨g,c,aN,aR,fun ab=>cA (ah g cur aF ab)⟩
abbrev kf:TypeId:=272
abbrev FH:TypeId:=158
abbrev amq(a:wC)(jA cD fx:ada):Array Value:= #[I a.dP.b.k,I a.dP.b.a.1,I a.dP.b.a.2,I a.dP.b.b.1,I a.dP.b.b.2,I a.dP.b.c.1,I a.dP.b.c.2,I a.dP.b.r,jA,cD,I a.r,ai a.round,ai a.block,fx]
abbrev FI:Value:=.agg #[I 0,I 0,I 0,I 0,I 0,I 0,I 0,I 0,ay 0,ay 0,I 0,ai false,ai false,ay 0]
def Ie(R:Jp)(w:bTo)(v:ada)(a:wC):Prop:=∃(pl:aya) (cl:Nat) (pp:aya) (cp:Nat) (l6:aya) (co:Nat),v=.agg (amq a (ad pl a.dP.b.l.length cl) (ad pp a.dP.p.len cp) (ad l6 a.fk.length co))∧dY R w pl cl pp cp a.dP∧iD R w l6 a.fk∧a.fk.length≤co
def mI(A:List (Int×Value))(k:Int):Option Value:=(A.find? fun x=>decide (k=x.1)).map Prod.snd
def tX(A:List (Int×Value))(k:Int)(v:ada):List (Int×Value):=match A.findIdx? (fun x=>decide (k=x.1)) with
 |some j=>A.set j (k,v)
 |none=>A++[(k,v)]
theorem abL(k j:Int)(v:ada):∀A:List (Int×Value),mI (tX A k v) j=if j=k then some v else mI A j
 |[]=>by by_cases h:j=k<;>simp[tX,mI,h]
 |x::A=>by
  have dc:=abL k j v A;by_cases hx:k=x.1
  ·subst hx;simp only[tX,C0,decide_true,List.set_cons_zero,uR];by_cases h:j=x.1<;>simp[mI,h]
  ·have e:tX (x::A) k v=x::tX A k v:=(by unfold tX;rw[C0,eD hx];cases A.findIdx? (fun x=>decide (k=x.1))<;>simp);rw[e];by_cases h:j=x.1
   ·simp[mI,h,fN hx]
   ·have aN:mI (x::tX A k v) j=mI (tX A k v) j:=(by simp[mI,h]);have aR:mI (x::A) j=mI A j:=(by simp[mI,h]);rw[aN,aR,dc]
def rO(R:Jp)(w:bTo)(m:Nat)(ap:Int→Option wC):Prop:=∃(es:Array MapEntry) (c:Nat) (A:List (Int×Value)),w.heap[m]?=some (.map es c)∧es.toList.map (fun e=>(e.key,e.val))=A.map (fun x=>(Value.int .i64 x.1,x.2))∧∀k,match ap k with
 |none=>mI A k=none
 |some a=>∃v,mI A k=some v∧Ie R w v a
theorem rO.keep{R S:Jp}{w w':bTo}{m:Nat}{ap:Int→Option wC}(h:rO R w m ap)(ab:aL S w w')(hm:S m)(hR:∀k,R k→S k):rO R w' m ap:=by
 obtain⟨es,c,A,aa,ah,ax⟩:=h;refine⟨es,c,A,ab.get hm aa,ah,fun k=>?_⟩;have bg:=ax k;cases ha:ap k with
 |none=>rw[ha] at bg;exact bg
 |some a=>
  rw[ha] at bg;obtain⟨v,b7,pl,cl,pp,cp,l6,co,c0,ea,eO,fG⟩:=bg;exact⟨v,b7,pl,cl,pp,cp,l6,co,c0,ea.keep (ab.mono fun k _=>hR k),eO.keep (ab.mono fun k _=>hR k),fG⟩
theorem rO.mono{R S:Jp}{w:bTo}{m:Nat}{ap:Int→Option wC}(h:rO R w m ap)(hR:∀k,R k→S k):rO S w m ap:=by
 obtain⟨es,c,A,aa,ah,ax⟩:=h;refine⟨es,c,A,aa,ah,fun k=>?_⟩;have bg:=ax k;cases ha:ap k with
 |none=>rw[ha] at bg;exact bg
 |some a=>
  rw[ha] at bg;obtain⟨v,b7,pl,cl,pp,cp,l6,co,c0,ea,eO,fG⟩:=bg;exact⟨v,b7,pl,cl,pp,cp,l6,co,c0,ea.mono fun k _=>hR k,eO.mono fun k _=>hR k,fG⟩
theorem rO.map{R:Jp}{w:bTo}{m:Nat}{ap:Int→Option wC}(h:rO R w m ap):∃es c,w.heap[m]?=some (.map es c):=by obtain⟨es,c,A,aa,_⟩:=h;exact⟨es,c,aa⟩
theorem UP(k:Int):∀(A:List (Int×Value)) (es:List MapEntry) (i:Nat),es.map (fun e=>(e.key,e.val))=A.map (fun x=>(Value.int .i64 x.1,x.2))→
  Instr.findNow (.int .i64) (I k) es i=some ((A.findIdx? fun x=>decide (k=x.1)).map fun j=>(i+j,(mI A k).getD FI))
 |[],es,i,he=>by have:es=[]:=(by simpa using he);subst this;simp[Instr.findNow]
 |x::A,es,i,he=>by
  cases es with
  |nil=>simp at he
  |cons e es=>
   simp only[r4,KO,gA] at he;obtain⟨⟨aa,ah⟩,ax⟩:=he;by_cases ab:k=x.1
   ·simp[Instr.findNow,Instr.sameNow,aa,ah,ab,mI,C0]
   ·have dc:=UP k A es (i+1) ax;have ga:(k==x.1)=false:=beq_eq_false_iff_ne.2 ab;simp only[mI] at dc⊢;simp[Instr.findNow,Instr.sameNow,aa,ab,ga,dc,C0,y',Eh 1];rfl
theorem rO.look{ap:Int→Option wC}(h:rO R w m ap)(n:Int):∃v,(∀x:bTo,x.heap[m]?=w.heap[m]?→(Instr.lookup FH (.map (some m)) (I n) true).run Tryz.prog x=.ok (.tuple #[v,ai (ap n).isSome]) x)∧match ap n with
  |none=>v=FI
  |some a=>Ie R w v a:=by
 obtain⟨es,c,A,aa,ah,ax⟩:=h;have hf:=UP n A es.toList 0 ah
 have key:∀x:bTo,x.heap[m]?=w.heap[m]?→(Instr.lookup FH (.map (some m)) (I n) true).run Tryz.prog x=.ok (.tuple #[(mI A n).getD FI,ai (mI A n).isSome]) x:=by
  intro x hx;have na:=hx.trans aa;have g1:=abH (P:=Tryz.prog) na;have g2:∀b,(Instr.checkKey b 10000 3 (I n)).run Tryz.prog x=.ok () x:=fun b=>abI (P:=Tryz.prog) (w:=x) zG (k:=I n) rfl b 9999;have g3:=abJ (P:=Tryz.prog) (w:=x) zG hf;have bx:(zeroValue kf).run Tryz.prog x=.ok FI x:=(by kernel_rfl);cases hi:A.findIdx? (fun y=>decide (n=y.1)) with
  |none=>
   have hn:mI A n=none:=(by unfold mI;rw[ZP] at hi;rw[List.find?_eq_none.2 (fun y hy=>by simpa using hi y hy)];rfl);rw[hi] at g3;simp[Instr.lookup,jT PU,go_sem,g1,g2,g3,bx,hn,Result.andThen]
  |some j=>
   have hn:(mI A n).isSome=true:=(by unfold mI;rw[Option.isSome_map,List.find?_isSome];obtain⟨bN,ch,_⟩:=List.findIdx?_eq_some_iff_getElem.1 hi;exact⟨A[j],j4 _,ch⟩);rw[hi] at g3;simp[Instr.lookup,jT PU,go_sem,g1,g2,g3,bx,hn,Result.andThen]
 have bg:=ax n;cases ha:ap n with
 |none=>
  rw[ha] at bg;refine⟨FI,fun x hx=>?_,rfl⟩;have:=key x hx;rw[bg] at this;exact this
 |some a=>
  rw[ha] at bg;obtain⟨v,b7,c0⟩:=bg;refine⟨v,fun x hx=>?_,c0⟩;have:=key x hx;rw[b7] at this;exact this
theorem rO.amr{ap:Int→Option wC}(h:rO R w m ap)(hm:¬R m)(n:Int){a:wC}{v:ada}(aS:Ie R w v a):
  ∃bE,(Instr.mapUpdate FH (.map (some m)) (I n) v).run Tryz.prog w=.ok () bE∧rO R bE m (fun j=>if j=n then some a else ap j)∧aL (fun b=>b≠m) w bE:=by
 obtain⟨es,c,A,aa,ah,ax⟩:=h;have hf:=UP n A es.toList 0 ah;have g1:=abH (P:=Tryz.prog) aa;have g2:(Instr.checkKey false 10000 3 (I n)).run Tryz.prog w=.ok () w:=abI (P:=Tryz.prog) (w:=w) zG (k:=I n) rfl false 9999;have g3:=abJ (P:=Tryz.prog) (w:=w) zG hf;have b0:=lt_of_heap aa;have Bl:∀qO c',aL (fun b=>b≠m) w {w with heap:=w.heap.setIfInBounds m (.map qO c')}:=fun qO c'=>⟨rfl,rfl,rfl,by simp,fun b af _=>by show (w.heap.setIfInBounds m _)[b]?=_;rw[zH,aK (fN af)]⟩;have LB:∀qO c',({w with heap:=w.heap.setIfInBounds m (.map qO c')}:bTo).heap[m]?=some (.map qO c'):=fun qO c'=>by show (w.heap.setIfInBounds m _)[m]?=_;rw[zH,aT rfl,aT b0]
 have so:∀qO c',aL R w {w with heap:=w.heap.setIfInBounds m (.map qO c')}:=fun qO c'=>(Bl qO c').mono fun k _ ab e=>hm (e ▸ ab)
 have nG:∀qO c',∀k,match (fun j=>if j=n then some a else ap j) k with
   |none=>mI (tX A n v) k=none
   |some a=>∃v',mI (tX A n v) k=some v'∧Ie R {w with heap:=w.heap.setIfInBounds m (.map qO c')} v' a:=by
  intro qO c' k;simp only[abL];have fj:∀(v:ada) (a:wC),Ie R w v a→Ie R {w with heap:=w.heap.setIfInBounds m (.map qO c')} v a:=(by rintro v a ⟨pl,cl,pp,cp,l6,co,c0,ea,eO,fG⟩;exact⟨pl,cl,pp,cp,l6,co,c0,ea.keep (so _ _),eO.keep (so _ _),fG⟩);by_cases ab:k=n
  ·simp only[ab,uR];exact⟨v,rfl,fj _ _ aS⟩
  ·simp only[ab,x0];have bg:=ax k;cases ha:ap k with
   |none=>rw[ha] at bg;exact bg
   |some b=>
    rw[ha] at bg;obtain⟨v',b7,c0⟩:=bg;exact⟨v',b7,fj _ _ c0⟩
 cases hi:A.findIdx? (fun y=>decide (n=y.1)) with
 |none=>
  rw[hi] at g3;refine⟨{w with heap:=w.heap.setIfInBounds m (.map (es.push {key:=I n,val:=v,born:=c}) (c+1))},?_,⟨_,_,tX A n v,LB _ _,?_,nG _ _⟩,Bl _ _⟩
  ·simp[Instr.mapUpdate,jT PU,go_sem,g1,g2,g3,OR _ aa,Result.andThen]
  ·unfold tX;rw[hi];simp only[Array.toList_push,mh,ah,r4,zI]
 |some j=>
  rw[hi] at g3;obtain⟨bN,ch,_⟩:=List.findIdx?_eq_some_iff_getElem.1 hi;have rh:j<es.toList.length:=(by have:=gb List.length ah;simp only[hk] at this;omega);have TO:(es[j]?).map (·.key)=some (I n):=(by have b7:=gb (fun l=>l[j]?) ah;simp only[C1,jH rh,jH bN,CX,mv,gA] at b7;have c0:es[j]?=some es.toList[j]:=(by rw[←zJ,jH rh]);rw[c0,CX,b7.1];have:n=A[j].1:=(by simpa using ch);rw[this]);have k9:∀x:bTo,(Instr.keyThatStays (I n) (I n)).run Tryz.prog x=.ok (I n) x:=(fun x=>by simp[Instr.keyThatStays,Instr.sameBits]);refine⟨{w with heap:=w.heap.setIfInBounds m (.map (es.modify j fun e=>{e with key:=I n,val:=v}) c)},?_,⟨_,_,tX A n v,LB _ _,?_,nG _ _⟩,Bl _ _⟩
  ·simp[Instr.mapUpdate,jT PU,go_sem,g1,g2,g3,TO,k9,OR _ aa,Result.andThen]
  ·unfold tX;rw[hi];apply Hl;intro n';have b7:=gb (fun l=>l[n']?) ah;simp only[C1,Array.toList_modify,List.getElem?_modify,List.getElem?_set] at b7⊢;by_cases hn:j=n'
   ·subst hn;rw[jH rh];simp[bN]
   ·simp only[hn,x0] at b7⊢;simpa using b7
end dE
namespace dE
open Go.RowKit el
open jj (hB o0 mH)
open cf (eI)
abbrev rP:TypeId:=166
abbrev nT:TypeId:=169
abbrev rQ:TypeId:=266
theorem o0.aY{B:Nat}{w w':bTo}{p:aya}{l:List (Int×Int)}(h:o0 B w p l)(af:av w w w'):o0 B w' p l:=fun aj=>by obtain⟨b,o,cs,e,aa,ah,ax⟩:=h aj;exact⟨b,o,cs,e,aa,aO ah af,ax⟩
theorem mH.aY{B:Nat}{w w':bTo}{p:aya}{l:List (List (Int×Int))}(h:mH B w p l)(af:av w w w'):mH B w' p l:=fun aj=>by obtain⟨b,o,cs,e,aa,ah,ax⟩:=h aj;refine⟨b,o,cs,e,aa,aO ah af,fun i hi=>?_⟩;obtain⟨q,c,bg,b7⟩:=ax i hi;exact⟨q,c,bg,o0.aY b7 af⟩
theorem hB.aY{B:Nat}{w w':bTo}{p:aya}{l:List eI}(h:hB B w p l)(af:av w w w'):hB B w' p l:=fun aj=>by obtain⟨b,o,cs,e,aa,ah,ax⟩:=h aj;refine⟨b,o,cs,e,aa,aO ah af,fun i hi=>?_⟩;obtain⟨q,c,bg,b7,c0,ea,eO⟩:=ax i hi;exact⟨q,c,bg,b7,c0,ea,mH.aY eO af⟩
def yv(w0:bTo):List ma→bTv→Prop
 |[],xs=>xs=[]
 |a::l,xs=>∃q c eS,xs=au ⟨a.name.toArray⟩::ad q a.b.length c::eS∧hB 0 w0 q a.b∧yv w0 l eS
theorem yv.snoc{w0:bTo}{a:ma}{q:aya}{c:Nat}(af:hB 0 w0 q a.b):∀{l:List ma} {xs:bTv},yv w0 l xs→yv w0 (l++[a]) (xs++[au ⟨a.name.toArray⟩,ad q a.b.length c])
 |[],_,h=>by subst h;exact⟨q,c,[],rfl,af,rfl⟩
 |_::_,_,⟨jF,c',eS,aa,ah,ax⟩=>⟨jF,c',eS++[au ⟨a.name.toArray⟩,ad q a.b.length c],by rw[aa];rfl,ah,yv.snoc af ax⟩
theorem yv.get{w0:bTo}:∀{l:List ma} {xs:bTv},yv w0 l xs→∀i (hi:i<l.length),∃q c,xs[i *2]?=some (au ⟨l[i].name.toArray⟩)∧xs[i *2+1]?=some (.slice q l[i].b.length c)∧hB 0 w0 q l[i].b
 |[],_,_,i,hi=>absurd hi (l7 _)
 |a::l,_,⟨q,c,eS,aa,ah,ax⟩,0,_=>⟨q,c,by rw[aa];rfl,by rw[aa];rfl,ah⟩
 |a::l,xs,⟨q,c,eS,aa,ah,ax⟩,i+1,hi=>by
  obtain⟨jF,c',bg,b7,c0⟩:=yv.get ax i (BC hi);refine⟨jF,c',?_,?_,c0⟩
  ·rw[aa,show (i+1) *2=i *2+2 by omega];exact bg
  ·rw[aa,show (i+1) *2+1=i *2+1+2 by omega];exact b7
abbrev Du(v:qH)(ov:ada):List Value:=[ai v.step,I v.code,I v.n,I v.m,I v.fF.1,I v.fF.2,ov]
def o2(R:Jp)(B:Nat)(w:bTo):List qH→bTv→List Nat→Prop
 |[],ix,hs=>ix=[]∧hs=[]
 |v::l,ix,hs=>∃sQ gs ov ox,ix=sQ++Du v ov∧hs=ov.ownBlock.toList++gs∧w.ownsRow B dQ 11 ov v.fk.length ox∧dS R w (qg v.fk) ox∧o2 R B w l sQ gs
theorem o2.keep{R S:Jp}{B:Nat}{w w':bTo}(ab:aL S w w')(hR:∀k,R k→S k):∀{l:List qH} {ix:bTv} {hs:List Nat},o2 R B w l ix hs→(∀k,k∈hs→S k)→o2 R B w' l ix hs
 |[],_,_,h,_=>h
 |v::l,ix,hs,⟨sQ,gs,ov,ox,aa,ah,ax,bg,b7⟩,hS=>⟨sQ,gs,ov,ox,aa,ah,ke ax ab fun k e=>hS k (by rw[ah,e];simp),bg.keep (ab.mono fun k _=>hR k),o2.keep ab hR b7 fun k hm=>hS k (by rw[ah];simp[hm])⟩
theorem o2.mono{R S:Jp}{B:Nat}{w:bTo}(hR:∀k,R k→S k):∀{l:List qH} {ix:bTv} {hs:List Nat},o2 R B w l ix hs→o2 S B w l ix hs
 |[],_,_,h=>h
 |v::l,ix,hs,⟨sQ,gs,ov,ox,aa,ah,ax,bg,b7⟩=>⟨sQ,gs,ov,ox,aa,ah,ax,bg.mono fun k _=>hR k,o2.mono hR b7⟩
theorem o2.Aa{R:Jp}{B:Nat}{w:bTo}:∀{l:List qH} {ix:bTv} {hs:List Nat},o2 R B w l ix hs→∀k,k∈hs→B≤k∧k<w.heap.size∧∃cur,w.heap[k]?=some (.cells cur dQ (0,0))
 |[],_,_,⟨_,h⟩,k,ab=>by rw[h] at ab;cases ab
 |v::l,ix,hs,⟨sQ,gs,ov,ox,aa,ah,ax,bg,b7⟩,k,ab=>by
  rw[ah,E2] at ab;rcases ab with ab|ab
  ·exact qS ax (by simpa[Option.mem_toList] using ab)
  ·exact o2.Aa b7 k ab
theorem o2.len{R:Jp}{B:Nat}{w:bTo}:∀{l:List qH} {ix:bTv} {hs:List Nat},o2 R B w l ix hs→ix.length=l.length *7
 |[],_,_,⟨h,_⟩=>by rw[h];rfl
 |v::l,ix,hs,⟨sQ,gs,ov,ox,aa,ah,ax,bg,b7⟩=>by have e:=o2.len b7;rw[aa,gh,e,show (v::l).length=l.length+1 from rfl,UN];rfl
structure o3 where
 b:Nat
 n:Nat
 c:Nat
 ix:List Value
 hs:List Nat
 fj:Value
 bz:List Value
abbrev LC(p:cG)(fu:Int)(m:Nat)(L:o3)(cv:ada):Array Value:= #[I p.unit,I fu,I p.k2,I p.fd,ai p.fO,ai p.formed,.map (some m),I p.pr,L.fj,I p.at_.1,I p.at_.2,I p.mode,ai p.ED,ai p.fe,ai p.c9.bz,ai p.c9.bK,I p.c9.q,I p.c9.fF.1,I p.c9.fF.2,ai p.region,cv,ad (some (ag L.b 0)) L.n L.c,I p.made,I p.budget,ai p.ended]
structure LD(P m:Nat)(L:o3)(cv ov:ada)(k:Nat):Prop where
 FJ:k≠P
 tY:k≠m
 abM:k≠L.b
 Ig:cv.ownBlock≠some k
 LF:ov.ownBlock≠some k
 abN:L.fj.ownBlock≠some k
 ams:k ∉ L.hs
structure eR(w0:bTo)(P:Nat)(R:Jp)(m:Nat)(L:o3)(fu:Int)(cv ov:ada)(cx ox:bTv)(p:cG)(w:bTo):Prop where
 pl:bo w P (LC p fu m L cv) rP
 mp:rO R w m p.iX
 nU:L.n=p.levels.length+1
 e3:w.ownsRow w0.heap.size nT 7 (bG L.b 0 L.n L.c) L.n (L.ix++Du p.top ov)
 jv:o2 R w0.heap.size w p.levels L.ix L.hs
 rR:∀k,k∈L.hs→ov.ownBlock≠some k
 sR:L.hs.Nodup
 bj:rN R w0.heap.size w cv p.bO cx
 an:w.ownsRow w0.heap.size dQ 11 ov p.top.fk.length ox
 nV:dS R w (qg p.top.fk) ox
 fl:w.ownsRow w0.heap.size rQ 2 L.fj p.gd.length L.bz
 qT:yv w0 p.gd L.bz
 jJ:∀k,R k→w0.heap.size≤k∧k<w.heap.size
 jK:∀k,R k→LD P m L cv ov k
 pK:w0.heap.size≤P
 rS:w0.heap.size≤m
 aY:av w0 w0 w
def lF(w0:bTo)(P:Nat)(p:cG)(w:bTo):Prop:=∃R m L fu cv ov cx ox,eR w0 P R m L fu cv ov cx ox p w
section
variable{w0:bTo}{P:Nat}{R:Jp}{m:Nat}{L:o3}{fu:Int}{cv ov:ada}{cx ox:bTv}{p:cG}{w:bTo}
theorem eR.UQ(h:eR w0 P R m L fu cv ov cx ox p w):w0.heap.size≤L.b∧∃cur,w.heap[L.b]?=some (.cells cur nT (0,0)):=o1 h.e3
theorem eR.kinds(h:eR w0 P R m L fu cv ov cx ox p w):(∃cs,w.heap[P]?=some (.cells cs rP (0,0)))∧(∃es c,w.heap[m]?=some (.map es c))∧(∃cs,w.heap[L.b]?=some (.cells cs nT (0,0)))∧(∀k,cv.ownBlock=some k→∃cs,w.heap[k]?=some (.cells cs fo (0,0)))∧(∀k,ov.ownBlock=some k→∃cs,w.heap[k]?=some (.cells cs dQ (0,0)))∧(∀k,L.fj.ownBlock=some k→∃cs,w.heap[k]?=some (.cells cs rQ (0,0)))∧∀k,k∈L.hs→∃cs,w.heap[k]?=some (.cells cs dQ (0,0)):=
 ⟨⟨_,h.pl⟩,h.mp.map,h.UQ.2,fun k e=>(qS h.bj.own e).2.2,fun k e=>(qS h.an e).2.2,fun k e=>(qS h.fl e).2.2,fun k ab=>(h.jv.Aa k ab).2.2⟩
theorem eR.amt(h:eR w0 P R m L fu cv ov cx ox p w){k:Nat}{cs:agv}{t:aui}{ef:Nat×Nat}(ab:w.heap[k]?=some (.cells cs t ef))(aa:t≠rP)(ah:t≠nT)(ax:t≠fo)(bg:t≠dQ)(b7:t≠rQ):LD P m L cv ov k:=by obtain⟨⟨_,a'⟩,⟨_,_,a2⟩,⟨_,a3⟩,a4,a5,rj,pg⟩:=h.kinds;exact⟨jb ab a' aa,sP ab a2,jb ab a3 ah,ni h.bj.own ab (fN ax),ni h.an ab (fN bg),ni h.fl ab (fN b7),fun hm=>by obtain⟨c,hc⟩:=pg k hm;exact jb ab hc bg rfl⟩
theorem eR.amu(h:eR w0 P R m L fu cv ov cx ox p w){k:Nat}(ab:w.heap.size≤k):LD P m L cv ov k:=by
 obtain⟨⟨_,a'⟩,⟨_,_,a2⟩,⟨_,a3⟩,a4,a5,rj,pg⟩:=h.kinds;refine⟨fun e=>?_,fun e=>?_,fun e=>?_,fun e=>?_,fun e=>?_,fun e=>?_,fun e=>?_⟩
 ·have:=lt_of_heap a';omega
 ·have:=lt_of_heap a2;omega
 ·have:=lt_of_heap a3;omega
 ·obtain⟨_,hc⟩:=a4 k e;have:=lt_of_heap hc;omega
 ·obtain⟨_,hc⟩:=a5 k e;have:=lt_of_heap hc;omega
 ·obtain⟨_,hc⟩:=rj k e;have:=lt_of_heap hc;omega
 ·obtain⟨_,hc⟩:=pg k e;have:=lt_of_heap hc;omega
theorem eR.below(h:eR w0 P R m L fu cv ov cx ox p w){w':bTo}(af:av w w w'):eR w0 P R m L fu cv ov cx ox p w':=
 have ab:aL (fun _=>True) w w':=.dM af
 {h with pl:=aO h.pl af,mp:=h.mp.keep ab trivial (fun _ _=>trivial),e3:=fE h.e3 af,jv:=h.jv.keep ab (fun _ _=>trivial) (fun _ _=>trivial),bj:=h.bj.below af,an:=fE h.an af,nV:=h.nV.below af,fl:=fE h.fl af,jJ:=fun k ab=>⟨(h.jJ k ab).1,jl (h.jJ k ab).2 af.size⟩,aY:=h.aY.trans (af.mono h.aY.size)}
theorem eR.more(h:eR w0 P R m L fu cv ov cx ox p w){T:Jp}(fh:∀k,T k→(w0.heap.size≤k∧k<w.heap.size)∧LD P m L cv ov k)(hp:∀k cur,w.heap[k]?=some (.cells cur eE (0,0))→T k→p.bO=[]):eR w0 P (fun k=>R k∨T k) m L fu cv ov cx ox p w:=
 {h with
  mp:=h.mp.mono fun k ab=>.inl ab
  jv:=h.jv.mono fun k ab=>.inl ab
  bj:=by
   by_cases hc:p.bO=[]
   ·have aa:=h.bj;rw[hc] at aa⊢;exact⟨aa.own,fun i hi=>absurd hi (l7 _),fun i hi=>absurd hi (l7 _)⟩
   ·exact h.bj.more (fun k ab=>.inl ab) fun k cur aF ab=>ab.elim id fun bH=>absurd (hp k cur aF bH) hc
  nV:=h.nV.mono fun k _ ab=>.inl ab
  jJ:=fun k ab=>ab.elim (h.jJ k) fun ab=>(fh k ab).1
  jK:=fun k ab=>ab.elim (h.jK k) fun ab=>(fh k ab).2}
variable{w':bTo}
theorem eR.fresh(h:eR w0 P R m L fu cv ov cx ox p w)(af:av w w w'):eR w0 P (fun k=>R k∨(w.heap.size≤k∧k<w'.heap.size)) m L fu cv ov cx ox p w':=
 have fy:=h.below af
 {fy with
  mp:=fy.mp.mono fun k ab=>.inl ab
  jv:=fy.jv.mono fun k ab=>.inl ab
  bj:=by
   refine⟨fy.bj.own,fun i hi=>?_,fun i hi he=>?_⟩
   ·obtain⟨q,c,aN,aR,cA⟩:=fy.bj.init i hi;exact⟨q,c,aN,aR,cA.mono fun k _ ab=>.inl ab⟩
   ·obtain⟨g,c,aN,aR,cA⟩:=h.bj.last i hi he;exact⟨g,c,aN,fE aR af,fun ab=>ab.elim cA fun ab=>absurd (qS aR (k:=g) rfl).2.1 (Nat.not_lt.2 ab.1)⟩
  nV:=fy.nV.mono fun k _ ab=>.inl ab
  jJ:=fun k ab=>ab.elim (fy.jJ k) fun ab=>⟨dX h.aY.size ab.1,ab.2⟩
  jK:=fun k ab=>ab.elim (h.jK k) fun ab=>h.amu ab.1}
theorem eR.vr(h:eR w0 P R m L fu cv ov cx ox p w){iK:cG}{abO:Int}(ab:aL (fun k=>k≠P) w w')(hp:bo w' P (LC iK abO m L cv) rP)(aa:iK.bO=p.bO)(ah:iK.top=p.top)(ax:iK.iX=p.iX)(bg:iK.levels=p.levels)(b7:iK.gd=p.gd):eR w0 P R m L abO cv ov cx ox iK w':=
 have hR:∀k,R k→k≠P:=fun k ab=>(h.jK k ab).FJ
 {pl:=hp
  mp:=by rw[ax];exact h.mp.keep ab (by obtain⟨es,c,hm⟩:=h.mp.map;exact (sP h.pl hm).symm) hR
  nU:=by rw[bg];exact h.nU
  e3:=by rw[ah];exact ke h.e3 ab fun k e=>fun aR=>ni h.e3 h.pl (by decide) (aR ▸ e)
  jv:=by rw[bg];exact h.jv.keep ab hR fun k hm e=>by obtain⟨_,_,c,hc⟩:=h.jv.Aa k hm;exact jb hc h.pl (by decide) e
  rR:=h.rR
  sR:=h.sR
  bj:=by rw[aa];exact h.bj.keep ab hR (fun k cur t aF bH=>jb aF h.pl (by rcases bH with rfl|rfl<;>decide))
  an:=by rw[ah];exact ke h.an ab fun k e=>fun aR=>ni h.an h.pl (by decide) (aR ▸ e)
  nV:=by rw[ah];exact h.nV.keep (ab.mono fun k _ Ih=>hR k Ih)
  fl:=by rw[b7];exact ke h.fl ab fun k e=>fun aR=>ni h.fl h.pl (by decide) (aR ▸ e)
  qT:=by rw[b7];exact h.qT
  jJ:=fun k Dv=>⟨(h.jJ k Dv).1,jl (h.jJ k Dv).2 ab.size⟩
  jK:=h.jK
  pK:=h.pK
  rS:=h.rS
  aY:=h.aY.trans (ab.below _ h.aY.size fun k ga e=>by have:=h.pK;omega)}
theorem eR.UR(h:eR w0 P R m L fu cv ov cx ox p w){l:Nat}(aj:p.levels.length=l)(j:Nat)(cB:j<7):w.cell? ⟨L.b,l *7+j,none⟩=(Du p.top ov)[j]?∧w.frozen? ⟨L.b,l *7+j,none⟩=false:=by have hlen:=h.jv.len;have hn:=h.nU;refine⟨?_,h.e3.frozenAt _⟩;rw[h.e3.cellAt (l *7+j) (by omega),zO (by omega),hlen,aj,OY]
end
theorem lF.below{w0:bTo}{P:Nat}{p:cG}{w w':bTo}(h:lF w0 P p w)(af:av w w w'):lF w0 P p w':=by obtain⟨R,m,L,fu,cv,ov,cx,ox,h⟩:=h;exact⟨R,m,L,fu,cv,ov,cx,ox,h.below af⟩
def fm(w0:bTo)(P:Nat)(res:Except Nat cG)(e:Ending)(w':bTo):Prop:=Below w0.heap.size w0 w'∧match res with
 |.ok q=>e=bb (I 0)∧lF w0 P q w'
 |.error k=>e=bb (I (k:Int))
def wY(w0:bTo)(P:Nat)(R Q:Jp)(w:bTo)(res:Except Nat cG)(e:Ending)(w':bTo):Prop:=Below w0.heap.size w0 w'∧aL Q w w'∧match res with
 |.ok q=>e=bb (I 0)∧∃R' m L fu cv ov cx ox,(∀k,R k→R' k)∧eR w0 P R' m L fu cv ov cx ox q w'
 |.error k=>e=bb (I (k:Int))
theorem wY.res{w0:bTo}{P:Nat}{R Q:Jp}{w w':bTo}{res:Except Nat cG}{e:Ending}(h:wY w0 P R Q w res e w'):fm w0 P res e w':=by
 obtain⟨aa,_,ah⟩:=h;refine⟨aa,?_⟩;cases res with
 |ok q=>
  obtain⟨ax,R',m,L,fu,cv,ov,cx,ox,_,bg⟩:=ah;exact⟨ax,_,_,_,_,_,_,_,_,bg⟩
 |error k=>exact ah
variable{w0 w w':bTo}{P:Nat}{R:Jp}{res:Except Nat cG}{e:Ending}
theorem wY.wide{hI Q abP:Jp}{X:bTo}(h:wY w0 P hI abP X res e w')(dp:av w w X)(aa:∀k,Q k→k<X.heap.size→abP k)(ah:∀k,R k→hI k):wY w0 P R Q w res e w':=by
 obtain⟨a,b,c⟩:=h;refine⟨a,(aL.dM dp).trans (b.mono fun k aj ab=>aa k ab aj),?_⟩;cases res with
 |ok q=>
  obtain⟨e,R',m,L,fu,cv,ov,cx,ox,g,h⟩:=c;exact⟨e,R',m,L,fu,cv,ov,cx,ox,fun k ab=>g k (ah k ab),h⟩
 |error k=>exact c
theorem fm.mJ{m:Nat}{L:o3}{fu:Int}{cv ov:ada}{cx ox:bTv}{p:cG}(he:e=bb (I 0))(h:eR w0 P R m L fu cv ov cx ox p w):fm w0 P (.ok p) e w:=⟨h.aY,he,_,_,_,_,_,_,_,_,h⟩
theorem fm.get(h:fm w0 P res e w'){q:cG}(aC:res=.ok q):e=bb (I 0)∧lF w0 P q w':=by subst aC;exact h.2
theorem fm.err(h:fm w0 P res e w'){k:Nat}(aC:res=.error k):e=bb (I (k:Int)):=by subst aC;exact h.2
theorem fm.ret(h:fm w0 P res e w'):∃v:Int,e=bb (I v):=by
 cases res with
 |ok q=>exact⟨0,h.2.1⟩
 |error k=>exact⟨(k:Int),h.2⟩
theorem abQ{B g n c:Nat}{l:List bp}(h:w.ownsRow B eE 2 (bG g 0 n c) n (nP l))(hn:n=l.length){i:Nat}(hi:i<l.length):aw w g (i *2) (I l[i].1)∧aw w g (i *2+1) (I l[i].2):=by obtain⟨aa,ah⟩:=KM hi;exact⟨(h.cellAt _ (by omega)).trans aa,(h.cellAt _ (by omega)).trans ah⟩
theorem rN.US{B:Nat}{cv:ada}{cs:List (List bp)}{xs:bTv}(h:rN R B w cv cs xs){n:Nat}(hn:cs.length=n+1){c:List bp}(hc:cs[n]?=some c):∃K cap g cg,cv=ad (some (ag K 0)) (n+1) cap∧aw w K n (ad (some (ag g 0)) c.length cg)∧w.frozen? ⟨K,n,none⟩=false∧w.ownsRow B eE 2 (bG g 0 c.length cg) c.length (nP c)∧¬R g:=by
 obtain⟨hi,rfl⟩:=List.getElem?_eq_some_iff.1 hc;obtain⟨g,cg,aa,ah,ax⟩:=h.last n hi hn.symm;have bl:=h.own;rw[hn] at bl
 obtain⟨K,cap,aS⟩:∃K cap,cv=ad (some (ag K 0)) (n+1) cap:=by
  rcases bl.2 with ⟨_,aQ⟩|⟨K,cap,cur,aS,_⟩
  ·omega
  ·exact⟨K,cap,aS⟩
 subst aS;exact⟨K,cap,g,cg,rfl,(bl.cellAt n (by omega)).trans aa,bl.frozenAt n,ah,ax⟩
end dE
namespace dE
open Go.RowKit el
variable{w:bTo}{xs:bTv}
theorem amv{B g n c bn:Nat}{e:aui}{Z V:bTv}(h:w.ownsRow B e bn (bG g 0 (n+1) c) (n+1) (xs++Z))(hx:xs.length=n *bn)(aS:V.length=bn):(jh w g (n *bn) V).ownsRow B e bn (bG g 0 (n+1) c) (n+1) (xs++V):=by
 have PW:(n+1) *bn=n *bn+bn:=UN n bn;refine⟨by rw[gh,hx,aS,PW],?_⟩;rcases h.2 with ⟨aS,_⟩|⟨k,cap,cur,ab,bJ,aF,aa,ah,ax,bg⟩
 ·cases aS
 ·injection ab with eA _ ga;injection eA with eA;injection eA with eA;subst eA ga;have hh:n *bn+V.length≤cur.size:=(by rw[aS,ax,←PW];exact Nat.mul_le_mul_right _ aa);refine .inr ⟨g,c,_,rfl,bJ,Hp V aF,aa,ah,by rw[Kk];exact ax,?_⟩;have hd:=YV (vs:=V) hh;rw[aS] at hd;rw[PW,List.take_add,YU (bD _),hd]
  congr 1
  have:=gb (List.take (n *bn)) bg;rw[Hm,EB (by rw[PW];omega),List.take_left' hx] at this;exact this
theorem amw{B g n c:Nat}{e:aui}{z0 z1 z2 z3 z4 z5 nW nj mK z9 lX:ada}(h:w.ownsRow B e 11 (bG g 0 (n+1) c) (n+1) (xs++[z0,z1,z2,z3,z4,z5,nW,nj,mK,z9,lX]))(hx:xs.length=n *11):
  aw w g (n *11) z0∧aw w g (n *11+1) z1∧aw w g (n *11+2) z2∧aw w g (n *11+3) z3∧aw w g (n *11+4) z4∧aw w g (n *11+5) z5∧aw w g (n *11+6) nW∧aw w g (n *11+7) nj∧aw w g (n *11+8) mK∧aw w g (n *11+9) z9∧aw w g (n *11+10) lX:=by
 have key:∀j,j<11→w.cell? ⟨g,n *11+j,none⟩=[z0,z1,z2,z3,z4,z5,nW,nj,mK,z9,lX][j]?:=by intro j cB;rw[h.cellAt (n *11+j) (by omega),zO (by omega),hx,OY]
 exact⟨key 0 (by decide),key 1 (by decide),key 2 (by decide),key 3 (by decide),key 4 (by decide),key 5 (by decide),key 6 (by decide),key 7 (by decide),key 8 (by decide),key 9 (by decide),key 10 (by decide)⟩
theorem set_comm{i j a b:Nat}{u v:ada}(h:i≠j):(w.setCell (ag i a) u).setCell (ag j b) v=(w.setCell (ag j b) v).setCell (ag i a) u:=by
 unfold World.setCell;simp only
 congr 1
 apply SH;intro k;rw[Co,Co,Co,Co];by_cases aa:i=k
 ·subst aa;rw[aK (fN h),aK (fN h)]
 ·rw[aK aa,aK aa]
theorem abR{b L o:Nat}{u:ada}(h:L≠b):∀(vs:bTv) {w:bTo} {m:Nat},jh (w.setCell (ag L o) u) b m vs=(jh w b m vs).setCell (ag L o) u
 |[],_,_=>rfl
 |v::vs,w,m=>by show jh ((w.setCell (ag L o) u).setCell (ag b m) v) b (m+1) vs=(jh (w.setCell (ag b m) v) b (m+1) vs).setCell (ag L o) u;rw[set_comm h];exact abR h vs
theorem amx{R:Jp}{l:List ec}{ox V:bTv}{d:Bool}{bs:dL}{s:bh}{pl:aya}{cl:Nat}{pp:aya}{cp:Nat}(h:dS R w (qg l) ox)(aj:ox.length=l.length *11)(nQ:V=ai d::l5 bs (ad pl bs.l.length cl) (ad pp s.len cp))(af:dY R w pl cl pp cp ⟨bs,s⟩):dS R w (qg (l++[(d,⟨bs,s⟩)])) (ox++V):=by rw[KH];refine dS.append h (by rw[aj,EW]) ?_;subst nQ;exact dS.mk (S:=R) (w:=w) (a:=d) (b:=bs) (s:=s) (r:=.nil) (pl:=pl) (cl:=cl) (pp:=pp) (cp:=cp) (by rfl) af trivial
theorem amy{B K n c i bn:Nat}{e:aui}{u:ada}(h:w.ownsRow B e bn (bG K 0 n c) n xs)(hi:i<n *bn):(w.setCell (ag K i) u).ownsRow B e bn (bG K 0 n c) n (xs.set i u):=by
 refine⟨by rw[Ln];exact h.1,?_⟩;rcases h.2 with ⟨aS,_⟩|⟨k,cap,cur,ab,bJ,aF,aa,ah,ax,bg⟩
 ·cases aS
 ·injection ab with eA _ ga;injection eA with eA;injection eA with eA;subst eA ga;refine .inr ⟨K,c,cur.setIfInBounds i u,rfl,bJ,c4 u aF,aa,ah,by rw[AN];exact ax,?_⟩;rw[Px,Py,bg]
theorem amz{ix:bTv}{l:Nat}(aj:ix.length=l *7)(v:qH)(ov PX:ada)(uG:List ec):(ix++Du v ov).set (l *7+6) PX=ix++Du {v with fk:=uG} PX:=by rw[TP _ _ (by omega),aj,OY];rfl
theorem eR.Bf{w0:bTo}{P:Nat}{R:Jp}{m:Nat}{L:o3}{fu:Int}{cv ov:ada}{cx ox:bTv}{p:cG}{X cb:bTo}{n l gg c:Nat}{Z V:bTv}{d:Bool}{bs:dL}{s:bh}{pl:aya}{cl:Nat}{pp:aya}{cp:Nat}
  (h:eR w0 P R m L fu cv ov cx ox p X) (hn:p.top.fk.length=n) (aj:p.levels.length=l) (aX:X.grownBy cb ov.ownBlock) (cM:cb.ownsRow w0.heap.size dQ 11 (bG gg 0 (n+1) c) (n+1) (ox++Z)) (hw:some gg=ov.ownBlock∨X.heap.size≤gg)
  (nQ:V=ai d::l5 bs (ad pl bs.l.length cl) (ad pp s.len cp)) (af:dY R X pl cl pp cp ⟨bs,s⟩):
  aL R X ((jh cb gg (n *11) V).setCell (ag L.b (l *7+6)) (bG gg 0 (n+1) c))∧
  eR w0 P R m L fu cv (bG gg 0 (n+1) c) cx (ox++V) {p with top:={p.top with fk:=p.top.fk++[(d,⟨bs,s⟩)]}} ((jh cb gg (n *11) V).setCell (ag L.b (l *7+6)) (bG gg 0 (n+1) c)):=by
 have amA:V.length=11:=by rw[nQ];rfl
 have abS:ox.length=n *11:=by rw[h.an.1,hn]
 have abT:=amv cM abS amA;obtain⟨tO,cur,gv⟩:=o1 cM;obtain⟨_,aaO,awA⟩:=o1 abT;obtain⟨awB,awC,PY⟩:=h.UQ;obtain⟨es,BD,o4⟩:=h.mp.map;have amB:L.ix.length=l *7:=by rw[h.jv.len,aj]
 have sS:L.n=l+1:=by rw[h.nU,aj]
 have abU:¬R gg:=by
  rcases hw with e|e
  ·exact fun ab=>(h.jK gg ab).LF e.symm
  ·intro ab;have:=(h.jJ gg ab).2;omega
 have abV:∀k,k∈L.hs→k≠gg:=by
  intro k ab e;subst e;rcases hw with e|e
  ·exact h.rR k ab e.symm
  ·have:=(h.jv.Aa k ab).2.1;omega
 have hne:∀k cs t ef,X.heap[k]?=some (.cells cs t ef)→t≠dQ→ov.ownBlock≠some k∧k≠gg:=by intro k cs t ef ab bH;have aa:=ni h.an ab (fN bH);exact⟨aa,jb ((aX.block k (lt_of_heap ab) (fN aa)).trans ab) gv bH⟩
 have zV:∀k es c,X.heap[k]?=some (.map es c)→ov.ownBlock≠some k∧k≠gg:=by intro k es c ab;have aa:=PV h.an ab;exact⟨aa,(sP gv ((aX.block k (lt_of_heap ab) (fN aa)).trans ab)).symm⟩
 have FK:=hne _ _ _ _ PY (by decide);have UT:aL (fun k=>ov.ownBlock≠some k∧k≠gg∧k≠L.b) X cb:=aL.grown aX fun k e ab=>ab.1 e;have PZ:aL (fun k=>ov.ownBlock≠some k∧k≠gg∧k≠L.b) cb (jh cb gg (n *11) V):=xT (fun ab=>ab.2.1 rfl) V;have hK:aL (fun k=>ov.ownBlock≠some k∧k≠gg∧k≠L.b) X ((jh cb gg (n *11) V).setCell (ag L.b (l *7+6)) (bG gg 0 (n+1) c)):=(UT.trans PZ).trans (aL.set (a:=⟨L.b,l *7+6,none⟩) (fun ab=>ab.2.2 rfl) _);have eh:World.ownsRow (jh cb gg (n *11) V) w0.heap.size nT 7 (bG L.b 0 L.n L.c) L.n (L.ix++Du p.top ov):=ke (ke h.e3 (aL.grown (S:=fun k=>ov.ownBlock≠some k) aX fun k e ab=>ab e) fun k e=>by have aR:L.b=k:=(by simpa[Value.ownBlock] using e);rw[←aR];exact FK.1) (xT (S:=fun k=>k≠gg) (fun ab=>ab rfl) V) fun k e=>by have aR:L.b=k:=(by simpa[Value.ownBlock] using e);rw[←aR];exact FK.2
 have Ab:∀k cs t ef,X.heap[k]?=some (.cells cs t ef)→t≠dQ→t≠nT→ov.ownBlock≠some k∧k≠gg∧k≠L.b:=fun k cs t ef ab aa ah=>⟨(hne k cs t ef ab aa).1,(hne k cs t ef ab aa).2,jb ab PY ah⟩;have Ii:∀k,R k→ov.ownBlock≠some k∧k≠gg∧k≠L.b:=fun k ab=>⟨(h.jK k ab).LF,fun e=>abU (e ▸ ab),(h.jK k ab).abM⟩;have amC:∀k,k∈L.hs→ov.ownBlock≠some k∧k≠gg∧k≠L.b:=fun k ab=>⟨h.rR k ab,abV k ab,by obtain⟨_,_,c,hc⟩:=h.jv.Aa k ab;exact jb hc PY (by decide)⟩;have amD:(p.top.fk++[(d,(⟨bs,s⟩:ey))]).length=n+1:=by rw[gh,hn];rfl
 refine⟨hK.mono fun k _ ab=>Ii k ab,?_⟩
 exact {
  pl:=hK.get (Ab _ _ _ _ h.pl (by decide) (by decide)) h.pl
  mp:=h.mp.keep hK ⟨(zV _ _ _ o4).1,(zV _ _ _ o4).2,(sP PY o4).symm⟩ Ii
  nU:=h.nU
  e3:=by have aa:=amy (u:=ad (some (ag gg 0)) (n+1) c) (i:=l *7+6) eh (by omega);rw[amz amB p.top ov _ (p.top.fk++[(d,⟨bs,s⟩)])] at aa;exact aa
  jv:=h.jv.keep hK Ii amC
  rR:=fun k ab e=>abV k ab (by simpa[Value.ownBlock] using e.symm)
  sR:=h.sR
  bj:=h.bj.keep hK Ii (fun k cur t aF bH=>Ab _ _ _ _ aF (by rcases bH with rfl|rfl<;>decide) (by rcases bH with rfl|rfl<;>decide))
  an:=by show World.ownsRow _ _ _ _ _ (p.top.fk++[(d,(⟨bs,s⟩:ey))]).length _;rw[amD];refine ke abT (aL.set (S:=fun k=>k≠L.b) (a:=⟨L.b,l *7+6,none⟩) (fun ab=>ab rfl) _) fun k e aR=>?_;have:gg=k:=(by simpa[Value.ownBlock] using e);exact FK.2 (aR.symm.trans this.symm)
  nV:=amx (h.nV.keep (hK.mono fun k _ ab=>Ii k ab)) (by rw[abS,hn]) nQ (af.keep (hK.mono fun k _ ab=>Ii k ab))
  fl:=ke h.fl hK fun k e=>by obtain⟨_,_,c,hc⟩:=qS h.fl e;exact Ab _ _ _ _ hc (by decide) (by decide)
  qT:=h.qT
  jJ:=fun k ab=>⟨(h.jJ k ab).1,jl (h.jJ k ab).2 hK.size⟩
  jK:=fun k ab=>{h.jK k ab with LF:=fun e=>abU ((show gg=k by simpa[Value.ownBlock] using e)▸ ab)}
  pK:=h.pK
  rS:=h.rS
  aY:=h.aY.trans (hK.below _ h.aY.size fun k ab=>⟨fun e=>by have:=(qS h.an e).1;omega,by omega,by omega⟩)}
theorem abW(w0:bTo)(P:Nat)(p:cG)(w:bTo)(H:J (lF w0 P p w))(hs:p.bO.length≤1000000∧∀c∈p.bO,0<c.length∧c.length≤1000000)(f:Bool)(hf:J (oL p.bO=f)):
  Calls Tryz.prog 144 #[dv P 0] w fun e w'=>e=bb (ai f)∧av w w w':=by
 obtain⟨R,m,L,fu,cv,ov,cx,ox,h⟩:=H.out;have wZ:=cell_of (i:=20) h.pl rfl;have tT:=h.bj;have aE:=hf.out;clear h H hf;generalize p.bO=cs at *
 obtain⟨aa,ah⟩:=hs;cases hl:cs.length with
 |zero=>
  have aQ:cs=[]:=qz hl;subst aQ;obtain⟨q,d,rfl⟩:=ik tT.own;subst aE;clear tT aa ah hl;simp only[th] at wZ;go_enter Tryz.func144,Tryz.ntmps144;go_wp2_with fail;go_ret;exact⟨rfl,Below.refl _ _⟩
 |succ n=>
  have hi:n<cs.length:=(by omega);obtain⟨c,hc⟩:=az (cs[n]);have Ij:c∈cs:=(by rw[←hc];exact j4 _);obtain⟨K,cap,g,cg,rfl,cN,_,eh,_⟩:=tT.US hl (c:=c) (by rw[jH hi,hc]);obtain⟨m1,m2⟩:=ah c Ij;have hlast:cs.getLast?=some c:=(by rw[UO,hl];simp only[Nat.add_sub_cancel];rw[jH hi,hc]);have Dw:(decide (4≤c.length)&&decide (c.head?=c.getLast?))=f:=(by rw[←aE];unfold oL;rw[hlast]);obtain⟨k,ab⟩:∃k,c.length=k+1:=⟨c.length-1,by omega⟩;have aF:c.head?=some c[0]:=(by rw[List.head?_eq_getElem?,jH (by omega)]);have aX:c.getLast?=some c[k]:=(by rw[UO,show c.length-1=k by omega];rw[jH (by omega)]);rw[aF,aX] at Dw;obtain⟨a0,a'⟩:=abQ eh rfl (i:=0) (by omega);obtain⟨bX,b3⟩:=abQ eh rfl (i:=k) (by omega);obtain⟨⟨aA,aB⟩,ha⟩:=az (c[0]);obtain⟨⟨aU,aZ⟩,af⟩:=az (c[k]);rw[ha] at a0 a' Dw;rw[af] at bX b3 Dw;rw[ab] at cN m2 Dw;have e9:=U Dw;have oG:n≤1000000:=(by omega);clear Dw ha af aF aX hlast eh tT ah Ij hc aE hl ab hi m1;obtain⟨vt,Fx⟩:=az (k+1);obtain⟨dj,eY⟩:=az (n+1);rw[Fx] at cN m2 e9;rw[eY] at wZ;have k6:bT ((dj:Int)-1)=(n:Int):=(by rw[b4 _ (by omega)];omega);have qd:bT ((vt:Int)-1)=(k:Int):=(by rw[b4 _ (by omega)];omega);have l8:(((dj:Int)==0):Bool)=false:=(by rw[kO];omega);go_enter Tryz.func144,Tryz.ntmps144;by_cases bg:4≤vt
  ·have hd:decide ((4:Int)≤(vt:Int))=true:=(by rw[gH];omega);have z0:(0:Int)<(vt:Int):=(by omega);have z1:0<vt:=(by omega);have z2:k<vt:=(by omega);have z3:(k:Int)<(vt:Int):=(by omega);obtain⟨aN,qF⟩:=az (aA==aU);obtain⟨aR,pj⟩:=az (aB==aZ);have Ik:f=(aN&&aR):=(by rw[←e9.out,←qF,←pj,xO];simp only[gy,gH,tC,mv,gA];exact⟨fun h=>h.2,fun h=>⟨bg,h⟩⟩);subst Ik;clear e9;cases aN<;>cases aR
   all_goals
    go_upto_region 3 with fail
    go_quiet (fail)
    go_upto_region 4 with fail
    go_quiet (fail)
    go_wp2_with fail;go_ret;exact⟨rfl,gj (Below.refl _ _) _⟩
  ·have hd:decide ((4:Int)≤(vt:Int))=false:=(by rw[CA];omega);go_upto_region 3 with fail
   go_quiet (fail)
   go_upto_region 4 with fail
   go_quiet (fail)
   go_wp2_with fail;go_ret;have Ik:f=false:=(by rw[←e9.out];simp;omega);subst Ik;exact⟨rfl,gj (Below.refl _ _) _⟩
end dE
