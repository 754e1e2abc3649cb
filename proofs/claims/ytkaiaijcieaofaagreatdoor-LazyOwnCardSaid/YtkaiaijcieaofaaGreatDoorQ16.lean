/- Lemmas. -/
import Derived.Test.YtkaiaijcieaofaaGreatDoorQ14
import Derived.Test.YtkaiaijcieaofaaGreatDoorQ15
import Derived.MapKept
set_option linter.all false
set_option maxRecDepth 100000
namespace Go.Proofs.YtkaiaijcieaofaaGreatDoor
abbrev aaR:=@MapKept.run_getObj_map
abbrev aaS:=@MapKept.run_checkKey
abbrev aaU:=@MapKept.run_findKey
abbrev Pa:=@Proofs.Tryz.underlying130
abbrev A0:=@Nat.lt_of_succ_lt_succ
abbrev Uk:=@Nat.succ_mul
abbrev Ul:=@Nat.mul_le_mul_right
abbrev Um:=@List.getLast?_eq_getElem?
abbrev Pb:=@Nat.add_sub_cancel
namespace gK
open Go.RowKit gI ga jz Mem hL cB
def kx(T:aai)(w w':aeo):Prop:=w.heap.size≤w'.heap.size∧∀(k:Nat) (cs:ajv) (t:aai) (dk:Nat×Nat),w.heap[k]?=some (Obj.cells cs t dk)→t≠T→w'.heap[k]?=some (.cells cs t dk)
variable{T:aai}{w w':aeo}
theorem kx.c4(h:an w w w'):kx T w w':=⟨h.size,fun k cs t dk aw _=>ba aw h⟩
theorem kx.trans{a b c:aeo}(h:kx T a b)(g:kx T b c):kx T a c:=⟨cd h.1 g.1,fun k cs t dk aw au=>g.2 k cs t dk (h.2 k cs t dk aw au) au⟩
variable{B:Nat}{v:ada}
theorem kx.grown{aR n:Nat}{xs:aev}(h:w.ownsRow B T aR v n xs)(aI:w.grownBy w' v.ownBlock):kx T w w':=
 ⟨aI.size,fun k cs t dk aw bc=>(aI.block k (Array.getElem?_eq_some_iff.1 aw).1 (eN (nP h aw (eN bc)))).trans aw⟩
theorem kx.set{b i:Nat}{cs:ajv}{dk:Nat×Nat}(h:w.heap[b]?=some (.cells cs T dk))(u:ada):kx T w (w.setCell (aj b i) u):=by
 refine⟨by simp[World.setCell],fun k dU t RG aw bc=>?_⟩;have py:k≠b:=by intro e;rw[e,h] at aw;injection aw with aw;injection aw with _ a6 _;exact bc a6.symm
 rw[hC _ _ _ _ py];exact aw
variable{p:Ja}
theorem dd.keep{l:List Int}(h:dd B w p l)(aw:kx T w w')(dm:2≠T):dd B w' p l:=by intro az;obtain⟨b,o,cs,rfl,bz,aE,aB⟩:=h az;exact⟨b,o,cs,rfl,bz,aw.2 _ _ _ _ aE dm,aB⟩
def l7(B:Nat)(w:aeo)(p:Ja)(l:List (Int×Int)):Prop:=0<l.length→∃(b o:Nat) (cs:ajv),p=some ⟨b,o,none⟩∧B≤b∧al w b cs 313∧∀i (hi:i<l.length),cs[o+i *2]?=some (I l[i].1)∧cs[o+i *2+1]?=some (I l[i].2)
theorem l7.nil(B:Nat)(w:aeo)(p:Ja):l7 B w p []:=fun h=>absurd h (mi _)
theorem l7.keep{l:List (Int×Int)}(h:l7 B w p l)(aw:kx T w w')(dm:313≠T):l7 B w' p l:=by intro az;obtain⟨b,o,cs,rfl,bz,aE,aB⟩:=h az;exact⟨b,o,cs,rfl,bz,aw.2 _ _ _ _ aE dm,aB⟩
theorem l7.mono{D:Nat}{l:List (Int×Int)}(h:l7 B w p l)(b4:D≤B):l7 D w p l:=by intro az;obtain⟨b,o,cs,rfl,bz,aE,aB⟩:=h az;exact⟨b,o,cs,rfl,cd b4 bz,aE,aB⟩
def j5(B:Nat)(w:aeo)(p:Ja)(l:List (List (Int×Int))):Prop:=0<l.length→∃(b o:Nat) (cs:ajv),p=some ⟨b,o,none⟩∧B≤b∧al w b cs 262∧∀i (hi:i<l.length),∃q c,cs[o+i]?=some (.slice q l[i].length c)∧l7 B w q l[i]
theorem j5.nil(B:Nat)(w:aeo)(p:Ja):j5 B w p []:=fun h=>absurd h (mi _)
theorem j5.keep{T:aai}{B:Nat}{w w':aeo}{p:Ja}{l:List (List (Int×Int))}(h:j5 B w p l)(aw:kx T w w')(au:313≠T)(ax:262≠T):j5 B w' p l:=by intro az;obtain⟨b,o,cs,rfl,bz,aE,aB⟩:=h az;refine⟨b,o,cs,rfl,bz,aw.2 _ _ _ _ aE ax,fun i hi=>?_⟩;obtain⟨q,c,aG,a1⟩:=aB i hi;exact⟨q,c,aG,a1.keep aw au⟩
theorem j5.mono{B D:Nat}{w:aeo}{p:Ja}{l:List (List (Int×Int))}(h:j5 B w p l)(b4:D≤B):j5 D w p l:=by intro az;obtain⟨b,o,cs,rfl,bz,aE,aB⟩:=h az;refine⟨b,o,cs,rfl,cd b4 bz,aE,fun i hi=>?_⟩;obtain⟨q,c,aG,a1⟩:=aB i hi;exact⟨q,c,aG,a1.mono b4⟩
def fG(B:Nat)(w:aeo)(p:Ja)(l:List dN):Prop:=0<l.length→∃(b o:Nat) (cs:ajv),p=some ⟨b,o,none⟩∧B≤b∧al w b cs 197∧
 ∀i (hi:i<l.length),∃q c,cs[o+i *4]?=some (I l[i].k)∧cs[o+i *4+1]?=some (I l[i].n)∧cs[o+i *4+2]?=some (aa ⟨l[i].t.toArray⟩)∧cs[o+i *4+3]?=some (.slice q l[i].args.length c)∧j5 B w q l[i].args
theorem fG.nil(B:Nat)(w:aeo)(p:Ja):fG B w p []:=fun h=>absurd h (mi _)
theorem fG.keep{T:aai}{B:Nat}{w w':aeo}{p:Ja}{l:List dN}(h:fG B w p l)(aw:kx T w w')(au:313≠T)(ax:262≠T)(aA:197≠T):fG B w' p l:=by intro az;obtain⟨b,o,cs,rfl,bz,aE,aB⟩:=h az;refine⟨b,o,cs,rfl,bz,aw.2 _ _ _ _ aE aA,fun i hi=>?_⟩;obtain⟨q,c,e9,aY,a6,cV,ha⟩:=aB i hi;exact⟨q,c,e9,aY,a6,cV,ha.keep aw au ax⟩
theorem fG.mono{B D:Nat}{w:aeo}{p:Ja}{l:List dN}(h:fG B w p l)(b4:D≤B):fG D w p l:=by intro az;obtain⟨b,o,cs,rfl,bz,aE,aB⟩:=h az;refine⟨b,o,cs,rfl,cd b4 bz,aE,fun i hi=>?_⟩;obtain⟨q,c,e9,aY,a6,cV,ha⟩:=aB i hi;exact⟨q,c,e9,aY,a6,cV,ha.mono b4⟩
inductive iM(B:Nat)(w:aeo):List (Nat×C)→aev→Prop
 |nil:iM B w [] []
 |cons {x:Nat×C} {l:List (Nat×C)} {p q:Ja} {k m:Nat} {xs:aev}:dd B w p x.2.bX→fG B w q x.2.blocks→iM B w l xs→
  iM B w (x::l) ((iN x.2 (x.1:Int) (ad p x.2.bX.length k) (ad q x.2.blocks.length m)).toList++xs)
variable{l:List (Nat×C)}
theorem iM.imp{D:Nat}{xs:aev}(h:iM B w l xs)(au:∀p n,dd B w p n→dd D w' p n)(ax:∀p n,fG B w p n→fG D w' p n):iM D w' l xs:=by
 induction h with
 |nil=>exact .nil
 |cons a b _ cU=>exact .cons (au _ _ a) (ax _ _ b) cU
theorem iM.append{m:List (Nat×C)}{xs ys:aev}(h:iM B w l xs)(g:iM B w m ys):iM B w (l++m) (xs++ys):=by
 induction h with
 |nil=>exact g
 |cons a b _ cU=>rw[w3,List.append_assoc];exact .cons a b cU
theorem iM.snoc{xs:aev}(h:iM B w l xs)(x:Nat×C){q:Ja}(k m:Nat)(hn:dd B w p x.2.bX)(ay:fG B w q x.2.blocks):
  iM B w (l++[x]) (xs++(iN x.2 (x.1:Int) (ad p x.2.bX.length k) (ad q x.2.blocks.length m)).toList):=by
 have ax:=h.append (.cons (k:=k) (m:=m) hn ay .nil)
 rwa [List.append_nil] at ax
theorem iM.alx{xs:aev}(h:iM B w l xs)(ay:an w w w'):iM B w' l xs:=
 h.imp (fun _ _ hn=>hn.below ay) (fun _ _ hn=>hn.keep (T:=0) (.c4 ay) (by decide) (by decide) (by decide))
def jO(B:Nat)(w:aeo)(v:ada)(l:List (Nat×C)):Prop:=∃xs,w.ownsRow B 92 12 v l.length xs∧iM B w l xs
theorem jO.below(h:jO B w v l)(ay:an w w w'):jO B w' v l:=by obtain⟨xs,au,ax⟩:=h;exact⟨xs,fY au ay,ax.alx ay⟩
theorem jO.nil(B:Nat)(w:aeo):jO B w cA []:=⟨[],⟨rfl,.inl ⟨rfl,rfl⟩⟩,.nil⟩
theorem jO.push{X:aeo}{v':ada}{xs:aev}{x:Nat×C}{q:Ja}{k m:Nat}(hx:w.ownsRow B 92 12 v l.length xs)(hr:iM B w l xs)(hn:dd B w p x.2.bX)(ay:fG B w q x.2.blocks)(b2:an w w X)(aI:X.grownBy w' v.ownBlock)
  (a1:w'.ownsRow B 92 12 v' (l.length+1) (xs++(iN x.2 (x.1:Int) (ad p x.2.bX.length k) (ad q x.2.blocks.length m)).toList)):jO B w' v' (l++[x]):=by
 have hK:kx 92 w w':=(kx.c4 b2).trans (.grown (fY hx b2) aI);refine⟨_,?_,(hr.imp (fun _ _ h=>h.keep hK (by decide)) (fun _ _ h=>h.keep hK (by decide) (by decide) (by decide))).snoc x k m (hn.keep hK (by decide)) (ay.keep hK (by decide) (by decide) (by decide))⟩;rw[show (l++[x]).length=l.length+1 by simp];exact a1
theorem aaV:(Tryz.prog.info? 92).map (fun i=>(i.zero,i.size,i.bytes))=some (some (.agg #[I 0,I 0,I 0,I 0,U false,aa ⟨#[]⟩,aa ⟨#[]⟩,aa ⟨#[]⟩,aa ⟨#[]⟩,aa ⟨#[]⟩,J 0,J 0]),12,168):=by kernel_rfl
end gK
namespace c1
open Go.RowKit ef
open gK (fG l7 j5)
variable{w:aeo}{B aR n c m:Nat}{e:aai}{v:ada}
theorem lH{t:aai}{xs:aev}(h:w.ownsRow B e aR v n xs){b:Nat}{cs:ajv}{dk:Nat×Nat}(ay:w.heap[b]?=some (.cells cs t dk))(he:e≠t):v.ownBlock≠some b:=by
 rcases h.2 with ⟨rfl,_⟩|⟨g,cap,cur,rfl,_,aE,_⟩
 ·simp[Value.ownBlock]
 ·intro ax;have:g=b:=(by simpa[Value.ownBlock] using ax);subst this;rw[ay] at aE;injection aE with aE;injection aE with _ bc;exact he bc.symm
theorem Pc{xs:aev}(h:w.ownsRow B e aR v n xs){b:Nat}{es:Array MapEntry}(ay:w.heap[b]?=some (.map es c)):v.ownBlock≠some b:=by
 rcases h.2 with ⟨rfl,_⟩|⟨g,cap,cur,rfl,_,aE,_⟩
 ·simp[Value.ownBlock]
 ·intro ax;have:g=b:=(by simpa[Value.ownBlock] using ax);subst this;rw[ay] at aE;cases aE
theorem sG{g:Nat}{xs:aev}(h:w.ownsRow B e aR (ag g 0 n c) m xs):B≤g∧∃cur,w.heap[g]?=some (.cells cur e (0,0)):=by
 rcases h.2 with ⟨aS,_⟩|⟨k,cap,cur,aw,bz,aE,_⟩
 ·cases aS
 ·injection aw with eM _ jE;injection eM with eM;injection eM with eM;subst eM;exact⟨bz,cur,aE⟩
theorem ky{xs:aev}(h:w.ownsRow B e aR v n xs){k:Nat}(aw:v.ownBlock=some k):B≤k∧k<w.heap.size∧∃cur,w.heap[k]?=some (.cells cur e (0,0)):=by
 rcases h.2 with ⟨rfl,_⟩|⟨g,cap,cur,rfl,bz,aE,_⟩
 ·simp[Value.ownBlock] at aw
 ·simp only[Value.ownBlock,r0] at aw;subst aw;exact⟨bz,lt_of_heap aE,cur,aE⟩
theorem g'{i j:Nat}{a b:ajv}{s t:aai}{f g:Nat×Nat}(au:w.heap[i]?=some (.cells a s f))(ax:w.heap[j]?=some (.cells b t g))(h:s≠t):i≠j:=by rintro rfl;rw[au] at ax;injection ax with ax;injection ax with _ ax;exact h ax
theorem pO{i j:Nat}{a:ajv}{s:aai}{f:Nat×Nat}{es:Array MapEntry}(au:w.heap[i]?=some (.cells a s f))(ax:w.heap[j]?=some (.map es c)):i≠j:=by rintro rfl;rw[au] at ax;cases ax
theorem jk{S:afp}{w':aeo}{xs:aev}(h:w.ownsRow B e aR v n xs)(aw:aK S w w')(hS:∀k,v.ownBlock=some k→S k):w'.ownsRow B e aR v n xs:=by
 refine⟨h.1,?_⟩;rcases h.2 with au|⟨g,cap,cur,rfl,bz,aE,ax⟩
 ·exact .inl au
 ·exact .inr ⟨g,cap,cur,rfl,bz,aw.get (hS g rfl) aE,ax⟩
structure rK(R:afp)(B:Nat)(w:aeo)(cv:ada)(cs:List (List b7))(xs:aev):Prop where
 own:w.ownsRow B e0 1 cv cs.length xs
 init:∀i (hi:i+1<cs.length),∃q c,xs[i]?=some (.slice q cs[i].length c)∧cs[i].length≤c∧gV R w q cs[i]
 last:∀i (hi:i<cs.length),i+1=cs.length→∃g c,xs[i]?=some (.slice (some (aj g 0)) cs[i].length c)∧w.ownsRow B de 2 (.slice (some (aj g 0)) cs[i].length c) cs[i].length (nK cs[i])∧¬R g
theorem rK.nil(R:afp)(B:Nat)(w:aeo):rK R B w (J 0) [] []:=⟨⟨rfl,.inl ⟨rfl,rfl⟩⟩,fun i hi=>absurd hi (lS _),fun i hi=>absurd hi (lS _)⟩
theorem rK.below{R:afp}{B:Nat}{w w':aeo}{cv:ada}{cs:List (List b7)}{xs:aev}(h:rK R B w cv cs xs)(ay:an w w w'):rK R B w' cv cs xs:=by
 refine⟨fY h.own ay,fun i hi=>?_,fun i hi he=>?_⟩
 ·obtain⟨q,c,au,ax,aA⟩:=h.init i hi;exact⟨q,c,au,ax,aA.below ay⟩
 ·obtain⟨g,c,au,ax,aA⟩:=h.last i hi he;exact⟨g,c,au,fY ax ay,aA⟩
theorem rK.keep{R S:afp}{B:Nat}{w w':aeo}{cv:ada}{cs:List (List b7)}{xs:aev}(h:rK R B w cv cs xs)(aw:aK S w w')(au:∀k,R k→S k)(ax:∀k cur t,w.heap[k]?=some (.cells cur t (0,0))→(t=e0∨t=de)→S k):rK R B w' cv cs xs:=by
 refine⟨jk h.own aw fun k e=>?_,fun i hi=>?_,fun i hi he=>?_⟩
 ·obtain⟨_,_,cur,aE⟩:=ky h.own e;exact ax _ _ _ aE (.inl rfl)
 ·obtain⟨q,c,aY,a6,cV⟩:=h.init i hi;exact⟨q,c,aY,a6,(cV.keep (aw.mono fun k _=>au k))⟩
 ·obtain⟨g,c,aY,a6,cV⟩:=h.last i hi he;refine⟨g,c,aY,jk a6 aw fun k e=>?_,cV⟩;obtain⟨_,_,cur,aE⟩:=ky a6 e;exact ax _ _ _ aE (.inr rfl)
variable{R:afp}
theorem rK.more{rL:afp}{cv:ada}{cs:List (List b7)}{xs:aev}(h:rK R B w cv cs xs)(au:∀k,R k→rL k)(ax:∀k cur,w.heap[k]?=some (.cells cur de (0,0))→rL k→R k):rK rL B w cv cs xs:=by
 refine⟨h.own,fun i hi=>?_,fun i hi he=>?_⟩
 ·obtain⟨q,c,aY,a6,cV⟩:=h.init i hi;exact⟨q,c,aY,a6,cV.mono fun k _=>au k⟩
 ·obtain⟨g,c,aY,a6,cV⟩:=h.last i hi he;obtain⟨_,cur,aE⟩:=sG a6;exact⟨g,c,aY,a6,fun aw=>cV (ax g cur aE aw)⟩
abbrev j6:TypeId:=211
abbrev Fa:TypeId:=130
abbrev aly(a:vT)(gb gv Un:ada):Array Value:= #[I a.bq.b.k,I a.bq.b.a.1,I a.bq.b.a.2,I a.bq.b.b.1,I a.bq.b.b.2,I a.bq.b.c.1,I a.bq.b.c.2,I a.bq.b.r,gb,gv,I a.r,U a.round,U a.block,Un]
abbrev Fb:Value:=.agg #[I 0,I 0,I 0,I 0,I 0,I 0,I 0,I 0,J 0,J 0,I 0,U false,U false,J 0]
def HM(R:afp)(w:aeo)(v:ada)(a:vT):Prop:=∃(pl:Ja) (cl:Nat) (pp:Ja) (cp:Nat) (gd:Ja) (co:Nat),v=.agg (aly a (ad pl a.bq.b.l.length cl) (ad pp a.bq.p.len cp) (ad gd a.eg.length co))∧dw R w pl cl pp cp a.bq∧gz R w gd a.eg∧a.eg.length≤co
def mO(A:List (Int×Value))(k:Int):Option Value:=(A.find? fun x=>decide (k=x.1)).map Prod.snd
def tU(A:List (Int×Value))(k:Int)(v:ada):List (Int×Value):=match A.findIdx? (fun x=>decide (k=x.1)) with
 |some j=>A.set j (k,v)
 |none=>A++[(k,v)]
theorem aaW(k j:Int)(v:ada):∀A:List (Int×Value),mO (tU A k v) j=if j=k then some v else mO A j
 |[]=>by by_cases h:j=k<;>simp[tU,mO,h]
 |x::A=>by
  have cU:=aaW k j v A;by_cases hx:k=x.1
  ·subst hx;simp only[tU,BR,decide_true,List.set_cons_zero,D6];by_cases h:j=x.1<;>simp[mO,h]
  ·have e:tU (x::A) k v=x::tU A k v:=(by unfold tU;rw[BR,fJ hx];cases A.findIdx? (fun x=>decide (k=x.1))<;>simp);rw[e];by_cases h:j=x.1
   ·simp[mO,h,eN hx]
   ·have aY:mO (x::tU A k v) j=mO (tU A k v) j:=(by simp[mO,h]);have a6:mO (x::A) j=mO A j:=(by simp[mO,h]);rw[aY,a6,cU]
def qY(R:afp)(w:aeo)(m:Nat)(ap:Int→Option vT):Prop:=∃(es:Array MapEntry) (c:Nat) (A:List (Int×Value)),w.heap[m]?=some (.map es c)∧es.toList.map (fun e=>(e.key,e.val))=A.map (fun x=>(Value.int .i64 x.1,x.2))∧∀k,match ap k with
 |none=>mO A k=none
 |some a=>∃v,mO A k=some v∧HM R w v a
theorem qY.keep{R S:afp}{w w':aeo}{m:Nat}{ap:Int→Option vT}(h:qY R w m ap)(aw:aK S w w')(hm:S m)(hR:∀k,R k→S k):qY R w' m ap:=by
 obtain⟨es,c,A,au,ax,aA⟩:=h;refine⟨es,c,A,aw.get hm au,ax,fun k=>?_⟩;have bb:=aA k;cases ha:ap k with
 |none=>rw[ha] at bb;exact bb
 |some a=>
  rw[ha] at bb;obtain⟨v,bj,pl,cl,pp,cp,gd,co,b8,cY,dM,e6⟩:=bb;exact⟨v,bj,pl,cl,pp,cp,gd,co,b8,cY.keep (aw.mono fun k _=>hR k),dM.keep (aw.mono fun k _=>hR k),e6⟩
theorem qY.mono{R S:afp}{w:aeo}{m:Nat}{ap:Int→Option vT}(h:qY R w m ap)(hR:∀k,R k→S k):qY S w m ap:=by
 obtain⟨es,c,A,au,ax,aA⟩:=h;refine⟨es,c,A,au,ax,fun k=>?_⟩;have bb:=aA k;cases ha:ap k with
 |none=>rw[ha] at bb;exact bb
 |some a=>
  rw[ha] at bb;obtain⟨v,bj,pl,cl,pp,cp,gd,co,b8,cY,dM,e6⟩:=bb;exact⟨v,bj,pl,cl,pp,cp,gd,co,b8,cY.mono fun k _=>hR k,dM.mono fun k _=>hR k,e6⟩
theorem qY.map{R:afp}{w:aeo}{m:Nat}{ap:Int→Option vT}(h:qY R w m ap):∃es c,w.heap[m]?=some (.map es c):=by obtain⟨es,c,A,au,_⟩:=h;exact⟨es,c,au⟩
theorem Uo(k:Int):∀(A:List (Int×Value)) (es:List MapEntry) (i:Nat),es.map (fun e=>(e.key,e.val))=A.map (fun x=>(Value.int .i64 x.1,x.2))→
  Instr.findNow (.int .i64) (I k) es i=some ((A.findIdx? fun x=>decide (k=x.1)).map fun j=>(i+j,(mO A k).getD Fb))
 |[],es,i,he=>by have:es=[]:=(by simpa using he);subst this;simp[Instr.findNow]
 |x::A,es,i,he=>by
  cases es with
  |nil=>simp at he
  |cons e es=>
   simp only[nx,JI,fg] at he;obtain⟨⟨au,ax⟩,aA⟩:=he;by_cases aw:k=x.1
   ·simp[Instr.findNow,Instr.sameNow,au,ax,aw,mO,BR]
   ·have cU:=Uo k A es (i+1) aA;have jE:(k==x.1)=false:=beq_eq_false_iff_ne.2 aw;simp only[mO] at cU⊢;simp[Instr.findNow,Instr.sameNow,au,aw,jE,cU,BR,vZ,JL 1];rfl
theorem qY.look{ap:Int→Option vT}(h:qY R w m ap)(n:Int):∃v,(∀x:aeo,x.heap[m]?=w.heap[m]?→(Instr.lookup Fa (.map (some m)) (I n) true).run Tryz.prog x=.ok (.tuple #[v,U (ap n).isSome]) x)∧match ap n with
  |none=>v=Fb
  |some a=>HM R w v a:=by
 obtain⟨es,c,A,au,ax,aA⟩:=h;have hf:=Uo n A es.toList 0 ax
 have key:∀x:aeo,x.heap[m]?=w.heap[m]?→(Instr.lookup Fa (.map (some m)) (I n) true).run Tryz.prog x=.ok (.tuple #[(mO A n).getD Fb,U (mO A n).isSome]) x:=by
  intro x hx;have hg:=hx.trans au;have g1:=aaR (P:=Tryz.prog) hg;have g2:∀b,(Instr.checkKey b 10000 3 (I n)).run Tryz.prog x=.ok () x:=fun b=>aaS (P:=Tryz.prog) (w:=x) qz (k:=I n) rfl b 9999;have g3:=aaU (P:=Tryz.prog) (w:=x) qz hf;have bP:(zeroValue j6).run Tryz.prog x=.ok Fb x:=(by kernel_rfl);cases hi:A.findIdx? (fun y=>decide (n=y.1)) with
  |none=>
   have hn:mO A n=none:=(by unfold mO;rw[Yo] at hi;rw[List.find?_eq_none.2 (fun y hy=>by simpa using hi y hy)];rfl);rw[hi] at g3;simp[Instr.lookup,k2 Pa,go_sem,g1,g2,g3,bP,hn,Result.andThen]
  |some j=>
   have hn:(mO A n).isSome=true:=(by unfold mO;rw[Option.isSome_map,List.find?_isSome];obtain⟨bI,bJ,_⟩:=List.findIdx?_eq_some_iff_getElem.1 hi;exact⟨A[j],k3 _,bJ⟩);rw[hi] at g3;simp[Instr.lookup,k2 Pa,go_sem,g1,g2,g3,bP,hn,Result.andThen]
 have bb:=aA n;cases ha:ap n with
 |none=>
  rw[ha] at bb;refine⟨Fb,fun x hx=>?_,rfl⟩;have:=key x hx;rw[bb] at this;exact this
 |some a=>
  rw[ha] at bb;obtain⟨v,bj,b8⟩:=bb;refine⟨v,fun x hx=>?_,b8⟩;have:=key x hx;rw[bj] at this;exact this
theorem qY.qU{ap:Int→Option vT}(h:qY R w m ap)(hm:¬R m)(n:Int){a:vT}{v:ada}(aS:HM R w v a):
  ∃bk,(Instr.mapUpdate Fa (.map (some m)) (I n) v).run Tryz.prog w=.ok () bk∧qY R bk m (fun j=>if j=n then some a else ap j)∧aK (fun b=>b≠m) w bk:=by
 obtain⟨es,c,A,au,ax,aA⟩:=h;have hf:=Uo n A es.toList 0 ax;have g1:=aaR (P:=Tryz.prog) au;have g2:(Instr.checkKey false 10000 3 (I n)).run Tryz.prog w=.ok () w:=aaS (P:=Tryz.prog) (w:=w) qz (k:=I n) rfl false 9999;have g3:=aaU (P:=Tryz.prog) (w:=w) qz hf;have bm:=lt_of_heap au;have wa:∀qB c',aK (fun b=>b≠m) w {w with heap:=w.heap.setIfInBounds m (.map qB c')}:=fun qB c'=>⟨rfl,rfl,rfl,by simp,fun b ay _=>by show (w.heap.setIfInBounds m _)[b]?=_;rw[xm,aN (eN ay)]⟩;have aaX:∀qB c',({w with heap:=w.heap.setIfInBounds m (.map qB c')}:aeo).heap[m]?=some (.map qB c'):=fun qB c'=>by show (w.heap.setIfInBounds m _)[m]?=_;rw[xm,aW rfl,aW bm]
 have HN:∀qB c',aK R w {w with heap:=w.heap.setIfInBounds m (.map qB c')}:=fun qB c'=>(wa qB c').mono fun k _ aw e=>hm (e ▸ aw)
 have nc:∀qB c',∀k,match (fun j=>if j=n then some a else ap j) k with
   |none=>mO (tU A n v) k=none
   |some a=>∃v',mO (tU A n v) k=some v'∧HM R {w with heap:=w.heap.setIfInBounds m (.map qB c')} v' a:=by
  intro qB c' k;simp only[aaW];have eZ:∀(v:ada) (a:vT),HM R w v a→HM R {w with heap:=w.heap.setIfInBounds m (.map qB c')} v a:=(by rintro v a ⟨pl,cl,pp,cp,gd,co,b8,cY,dM,e6⟩;exact⟨pl,cl,pp,cp,gd,co,b8,cY.keep (HN _ _),dM.keep (HN _ _),e6⟩);by_cases aw:k=n
  ·simp only[aw,D6];exact⟨v,rfl,eZ _ _ aS⟩
  ·simp only[aw,JM];have bb:=aA k;cases ha:ap k with
   |none=>rw[ha] at bb;exact bb
   |some b=>
    rw[ha] at bb;obtain⟨v',bj,b8⟩:=bb;exact⟨v',bj,eZ _ _ b8⟩
 cases hi:A.findIdx? (fun y=>decide (n=y.1)) with
 |none=>
  rw[hi] at g3;refine⟨{w with heap:=w.heap.setIfInBounds m (.map (es.push {key:=I n,val:=v,born:=c}) (c+1))},?_,⟨_,_,tU A n v,aaX _ _,?_,nc _ _⟩,wa _ _⟩
  ·simp[Instr.mapUpdate,k2 Pa,go_sem,g1,g2,g3,NT _ au,Result.andThen]
  ·unfold tU;rw[hi];simp only[Array.toList_push,v7,ax,nx,nF]
 |some j=>
  rw[hi] at g3;obtain⟨bI,bJ,_⟩:=List.findIdx?_eq_some_iff_getElem.1 hi;have tj:j<es.toList.length:=(by have:=fS List.length ax;simp only[jV] at this;omega);have D':(es[j]?).map (·.key)=some (I n):=(by have bj:=fS (fun l=>l[j]?) ax;simp only[D7,iW tj,iW bI,An,r0,fg] at bj;have b8:es[j]?=some es.toList[j]:=(by rw[←yO,iW tj]);rw[b8,An,bj.1];have:n=A[j].1:=(by simpa using bJ);rw[this]);have hJ:∀x:aeo,(Instr.keyThatStays (I n) (I n)).run Tryz.prog x=.ok (I n) x:=(fun x=>by simp[Instr.keyThatStays,Instr.sameBits]);refine⟨{w with heap:=w.heap.setIfInBounds m (.map (es.modify j fun e=>{e with key:=I n,val:=v}) c)},?_,⟨_,_,tU A n v,aaX _ _,?_,nc _ _⟩,wa _ _⟩
  ·simp[Instr.mapUpdate,k2 Pa,go_sem,g1,g2,g3,D',hJ,NT _ au,Result.andThen]
  ·unfold tU;rw[hi];apply GA;intro n';have bj:=fS (fun l=>l[n']?) ax;simp only[D7,Array.toList_modify,List.getElem?_modify,List.getElem?_set] at bj⊢;by_cases hn:j=n'
   ·subst hn;rw[iW tj];simp[bI]
   ·simp only[hn,JM] at bj⊢;simpa using bj
end c1
namespace c1
open Go.RowKit ef
open gK (fG l7 j5)
open cB (dN)
abbrev oz:TypeId:=138
abbrev gF:TypeId:=141
abbrev pP:TypeId:=204
theorem l7.aM{B:Nat}{w w':aeo}{p:Ja}{l:List (Int×Int)}(h:l7 B w p l)(ay:an w w w'):l7 B w' p l:=fun az=>by obtain⟨b,o,cs,e,au,ax,aA⟩:=h az;exact⟨b,o,cs,e,au,ba ax ay,aA⟩
theorem j5.aM{B:Nat}{w w':aeo}{p:Ja}{l:List (List (Int×Int))}(h:j5 B w p l)(ay:an w w w'):j5 B w' p l:=fun az=>by obtain⟨b,o,cs,e,au,ax,aA⟩:=h az;refine⟨b,o,cs,e,au,ba ax ay,fun i hi=>?_⟩;obtain⟨q,c,bb,bj⟩:=aA i hi;exact⟨q,c,bb,l7.aM bj ay⟩
theorem fG.aM{B:Nat}{w w':aeo}{p:Ja}{l:List dN}(h:fG B w p l)(ay:an w w w'):fG B w' p l:=fun az=>by obtain⟨b,o,cs,e,au,ax,aA⟩:=h az;refine⟨b,o,cs,e,au,ba ax ay,fun i hi=>?_⟩;obtain⟨q,c,bb,bj,b8,cY,dM⟩:=aA i hi;exact⟨q,c,bb,bj,b8,cY,j5.aM dM ay⟩
def vk(w0:aeo):List mo→aev→Prop
 |[],xs=>xs=[]
 |a::l,xs=>∃q c ys,xs=aa ⟨a.name.toArray⟩::ad q a.b.length c::ys∧fG 0 w0 q a.b∧vk w0 l ys
theorem vk.snoc{w0:aeo}{a:mo}{q:Ja}{c:Nat}(ay:fG 0 w0 q a.b):∀{l:List mo} {xs:aev},vk w0 l xs→vk w0 (l++[a]) (xs++[aa ⟨a.name.toArray⟩,ad q a.b.length c])
 |[],_,h=>by subst h;exact⟨q,c,[],rfl,ay,rfl⟩
 |_::_,_,⟨D8,c',ys,au,ax,aA⟩=>⟨D8,c',ys++[aa ⟨a.name.toArray⟩,ad q a.b.length c],by rw[au];rfl,ax,vk.snoc ay aA⟩
theorem vk.get{w0:aeo}:∀{l:List mo} {xs:aev},vk w0 l xs→∀i (hi:i<l.length),∃q c,xs[i *2]?=some (aa ⟨l[i].name.toArray⟩)∧xs[i *2+1]?=some (.slice q l[i].b.length c)∧fG 0 w0 q l[i].b
 |[],_,_,i,hi=>absurd hi (lS _)
 |a::l,_,⟨q,c,ys,au,ax,aA⟩,0,_=>⟨q,c,by rw[au];rfl,by rw[au];rfl,ax⟩
 |a::l,xs,⟨q,c,ys,au,ax,aA⟩,i+1,hi=>by
  obtain⟨D8,c',bb,bj,b8⟩:=vk.get aA i (A0 hi);refine⟨D8,c',?_,?_,b8⟩
  ·rw[au,show (i+1) *2=i *2+2 by omega];exact bb
  ·rw[au,show (i+1) *2+1=i *2+1+2 by omega];exact bj
abbrev l8(v:nD)(ov:ada):List Value:=[U v.step,I v.code,I v.n,I v.m,I v.eI.1,I v.eI.2,ov]
def o7(R:afp)(B:Nat)(w:aeo):List nD→aev→List Nat→Prop
 |[],fP,hs=>fP=[]∧hs=[]
 |v::l,fP,hs=>∃qZ gs ov ox,fP=qZ++l8 v ov∧hs=ov.ownBlock.toList++gs∧w.ownsRow B fA 11 ov v.eg.length ox∧da R w (p9 v.eg) ox∧o7 R B w l qZ gs
theorem o7.keep{R S:afp}{B:Nat}{w w':aeo}(aw:aK S w w')(hR:∀k,R k→S k):∀{l:List nD} {fP:aev} {hs:List Nat},o7 R B w l fP hs→(∀k,k∈hs→S k)→o7 R B w' l fP hs
 |[],_,_,h,_=>h
 |v::l,fP,hs,⟨qZ,gs,ov,ox,au,ax,aA,bb,bj⟩,hS=>⟨qZ,gs,ov,ox,au,ax,jk aA aw fun k e=>hS k (by rw[ax,e];simp),bb.keep (aw.mono fun k _=>hR k),o7.keep aw hR bj fun k hm=>hS k (by rw[ax];simp[hm])⟩
theorem o7.mono{R S:afp}{B:Nat}{w:aeo}(hR:∀k,R k→S k):∀{l:List nD} {fP:aev} {hs:List Nat},o7 R B w l fP hs→o7 S B w l fP hs
 |[],_,_,h=>h
 |v::l,fP,hs,⟨qZ,gs,ov,ox,au,ax,aA,bb,bj⟩=>⟨qZ,gs,ov,ox,au,ax,aA,bb.mono fun k _=>hR k,o7.mono hR bj⟩
theorem o7.wL{R:afp}{B:Nat}{w:aeo}:∀{l:List nD} {fP:aev} {hs:List Nat},o7 R B w l fP hs→∀k,k∈hs→B≤k∧k<w.heap.size∧∃cur,w.heap[k]?=some (.cells cur fA (0,0))
 |[],_,_,⟨_,h⟩,k,aw=>by rw[h] at aw;cases aw
 |v::l,fP,hs,⟨qZ,gs,ov,ox,au,ax,aA,bb,bj⟩,k,aw=>by
  rw[ax,R7] at aw;rcases aw with aw|aw
  ·exact ky aA (by simpa[Option.mem_toList] using aw)
  ·exact o7.wL bj k aw
theorem o7.len{R:afp}{B:Nat}{w:aeo}:∀{l:List nD} {fP:aev} {hs:List Nat},o7 R B w l fP hs→fP.length=l.length *7
 |[],_,_,⟨h,_⟩=>by rw[h];rfl
 |v::l,fP,hs,⟨qZ,gs,ov,ox,au,ax,aA,bb,bj⟩=>by have e:=o7.len bj;rw[au,fH,e,show (v::l).length=l.length+1 from rfl,Uk];rfl
structure nm where
 b:Nat
 n:Nat
 c:Nat
 fP:List Value
 hs:List Nat
 eZ:Value
 bx:List Value
abbrev Fc(p:cy)(fu:Int)(m:Nat)(L:nm)(cv:ada):Array Value:= #[I p.unit,I fu,I p.kI,I p.fd,U p.kJ,U p.formed,.map (some m),I p.pt,L.eZ,I p.at_.1,I p.at_.2,I p.mode,U p.DX,U p.fe,U p.cz.bx,U p.cz.bO,I p.cz.q,I p.cz.eI.1,I p.cz.eI.2,U p.region,cv,ad (some (aj L.b 0)) L.n L.c,I p.made,I p.budget,U p.ended]
structure Lf(P m:Nat)(L:nm)(cv ov:ada)(k:Nat):Prop where
 x2:k≠P
 oA:k≠m
 Lg:k≠L.b
 CK:cv.ownBlock≠some k
 HO:ov.ownBlock≠some k
 Pd:L.eZ.ownBlock≠some k
 Pe:k ∉ L.hs
structure dV(w0:aeo)(P:Nat)(R:afp)(m:Nat)(L:nm)(fu:Int)(cv ov:ada)(cx ox:aev)(p:cy)(w:aeo):Prop where
 pl:al w P (Fc p fu m L cv) oz
 mp:qY R w m p.jC
 kz:L.n=p.levels.length+1
 er:w.ownsRow w0.heap.size gF 7 (ag L.b 0 L.n L.c) L.n (L.fP++l8 p.top ov)
 ia:o7 R w0.heap.size w p.levels L.fP L.hs
 oB:∀k,k∈L.hs→ov.ownBlock≠some k
 oC:L.hs.Nodup
 bg:rK R w0.heap.size w cv p.bQ cx
 aD:w.ownsRow w0.heap.size fA 11 ov p.top.eg.length ox
 lI:da R w (p9 p.top.eg) ox
 ej:w.ownsRow w0.heap.size pP 2 L.eZ p.gM.length L.bx
 oD:vk w0 p.gM L.bx
 h0:∀k,R k→w0.heap.size≤k∧k<w.heap.size
 hv:∀k,R k→Lf P m L cv ov k
 l9:w0.heap.size≤P
 mK:w0.heap.size≤m
 aM:an w0 w0 w
def jl(w0:aeo)(P:Nat)(p:cy)(w:aeo):Prop:=∃R m L fu cv ov cx ox,dV w0 P R m L fu cv ov cx ox p w
section
variable{w0:aeo}{P:Nat}{R:afp}{m:Nat}{L:nm}{fu:Int}{cv ov:ada}{cx ox:aev}{p:cy}{w:aeo}
theorem dV.Pf(h:dV w0 P R m L fu cv ov cx ox p w):w0.heap.size≤L.b∧∃cur,w.heap[L.b]?=some (.cells cur gF (0,0)):=sG h.er
theorem dV.kinds(h:dV w0 P R m L fu cv ov cx ox p w):(∃cs,w.heap[P]?=some (.cells cs oz (0,0)))∧(∃es c,w.heap[m]?=some (.map es c))∧(∃cs,w.heap[L.b]?=some (.cells cs gF (0,0)))∧(∀k,cv.ownBlock=some k→∃cs,w.heap[k]?=some (.cells cs e0 (0,0)))∧(∀k,ov.ownBlock=some k→∃cs,w.heap[k]?=some (.cells cs fA (0,0)))∧(∀k,L.eZ.ownBlock=some k→∃cs,w.heap[k]?=some (.cells cs pP (0,0)))∧∀k,k∈L.hs→∃cs,w.heap[k]?=some (.cells cs fA (0,0)):=
 ⟨⟨_,h.pl⟩,h.mp.map,h.Pf.2,fun k e=>(ky h.bg.own e).2.2,fun k e=>(ky h.aD e).2.2,fun k e=>(ky h.ej e).2.2,fun k aw=>(h.ia.wL k aw).2.2⟩
theorem dV.alz(h:dV w0 P R m L fu cv ov cx ox p w){k:Nat}{cs:ajv}{t:aai}{dk:Nat×Nat}(aw:w.heap[k]?=some (.cells cs t dk))(au:t≠oz)(ax:t≠gF)(aA:t≠e0)(bb:t≠fA)(bj:t≠pP):Lf P m L cv ov k:=by obtain⟨⟨_,ew⟩,⟨_,_,a2⟩,⟨_,a3⟩,a4,a5,rr,pB⟩:=h.kinds;exact⟨g' aw ew au,pO aw a2,g' aw a3 ax,lH h.bg.own aw (eN aA),lH h.aD aw (eN bb),lH h.ej aw (eN bj),fun hm=>by obtain⟨c,aB⟩:=pB k hm;exact g' aw aB bb rfl⟩
theorem dV.alA(h:dV w0 P R m L fu cv ov cx ox p w){k:Nat}(aw:w.heap.size≤k):Lf P m L cv ov k:=by
 obtain⟨⟨_,ew⟩,⟨_,_,a2⟩,⟨_,a3⟩,a4,a5,rr,pB⟩:=h.kinds;refine⟨fun e=>?_,fun e=>?_,fun e=>?_,fun e=>?_,fun e=>?_,fun e=>?_,fun e=>?_⟩
 ·have:=lt_of_heap ew;omega
 ·have:=lt_of_heap a2;omega
 ·have:=lt_of_heap a3;omega
 ·obtain⟨_,aB⟩:=a4 k e;have:=lt_of_heap aB;omega
 ·obtain⟨_,aB⟩:=a5 k e;have:=lt_of_heap aB;omega
 ·obtain⟨_,aB⟩:=rr k e;have:=lt_of_heap aB;omega
 ·obtain⟨_,aB⟩:=pB k e;have:=lt_of_heap aB;omega
theorem dV.below(h:dV w0 P R m L fu cv ov cx ox p w){w':aeo}(ay:an w w w'):dV w0 P R m L fu cv ov cx ox p w':=
 have aw:aK (fun _=>True) w w':=.c4 ay
 {h with pl:=ba h.pl ay,mp:=h.mp.keep aw trivial (fun _ _=>trivial),er:=fY h.er ay,ia:=h.ia.keep aw (fun _ _=>trivial) (fun _ _=>trivial),bg:=h.bg.below ay,aD:=fY h.aD ay,lI:=h.lI.below ay,ej:=fY h.ej ay,h0:=fun k aw=>⟨(h.h0 k aw).1,hN (h.h0 k aw).2 ay.size⟩,aM:=h.aM.trans (ay.mono h.aM.size)}
theorem dV.more(h:dV w0 P R m L fu cv ov cx ox p w){T:afp}(dm:∀k,T k→(w0.heap.size≤k∧k<w.heap.size)∧Lf P m L cv ov k)(hp:∀k cur,w.heap[k]?=some (.cells cur de (0,0))→T k→p.bQ=[]):dV w0 P (fun k=>R k∨T k) m L fu cv ov cx ox p w:=
 {h with
  mp:=h.mp.mono fun k aw=>.inl aw
  ia:=h.ia.mono fun k aw=>.inl aw
  bg:=by
   by_cases aB:p.bQ=[]
   ·have au:=h.bg;rw[aB] at au⊢;exact⟨au.own,fun i hi=>absurd hi (lS _),fun i hi=>absurd hi (lS _)⟩
   ·exact h.bg.more (fun k aw=>.inl aw) fun k cur aE aw=>aw.elim id fun bc=>absurd (hp k cur aE bc) aB
  lI:=h.lI.mono fun k _ aw=>.inl aw
  h0:=fun k aw=>aw.elim (h.h0 k) fun aw=>(dm k aw).1
  hv:=fun k aw=>aw.elim (h.hv k) fun aw=>(dm k aw).2}
variable{w':aeo}
theorem dV.fresh(h:dV w0 P R m L fu cv ov cx ox p w)(ay:an w w w'):dV w0 P (fun k=>R k∨(w.heap.size≤k∧k<w'.heap.size)) m L fu cv ov cx ox p w':=
 have eQ:=h.below ay
 {eQ with
  mp:=eQ.mp.mono fun k aw=>.inl aw
  ia:=eQ.ia.mono fun k aw=>.inl aw
  bg:=by
   refine⟨eQ.bg.own,fun i hi=>?_,fun i hi he=>?_⟩
   ·obtain⟨q,c,aY,a6,cV⟩:=eQ.bg.init i hi;exact⟨q,c,aY,a6,cV.mono fun k _ aw=>.inl aw⟩
   ·obtain⟨g,c,aY,a6,cV⟩:=h.bg.last i hi he;exact⟨g,c,aY,fY a6 ay,fun aw=>aw.elim cV fun aw=>absurd (ky a6 (k:=g) rfl).2.1 (Nat.not_lt.2 aw.1)⟩
  lI:=eQ.lI.mono fun k _ aw=>.inl aw
  h0:=fun k aw=>aw.elim (eQ.h0 k) fun aw=>⟨cd h.aM.size aw.1,aw.2⟩
  hv:=fun k aw=>aw.elim (h.hv k) fun aw=>h.alA aw.1}
theorem dV.vl(h:dV w0 P R m L fu cv ov cx ox p w){xu:cy}{aaY:Int}(aw:aK (fun k=>k≠P) w w')(hp:al w' P (Fc xu aaY m L cv) oz)(au:xu.bQ=p.bQ)(ax:xu.top=p.top)(aA:xu.jC=p.jC)(bb:xu.levels=p.levels)(bj:xu.gM=p.gM):dV w0 P R m L aaY cv ov cx ox xu w':=
 have hR:∀k,R k→k≠P:=fun k aw=>(h.hv k aw).x2
 {pl:=hp
  mp:=by rw[aA];exact h.mp.keep aw (by obtain⟨es,c,hm⟩:=h.mp.map;exact (pO h.pl hm).symm) hR
  kz:=by rw[bb];exact h.kz
  er:=by rw[ax];exact jk h.er aw fun k e=>fun a6=>lH h.er h.pl (by decide) (a6 ▸ e)
  ia:=by rw[bb];exact h.ia.keep aw hR fun k hm e=>by obtain⟨_,_,c,aB⟩:=h.ia.wL k hm;exact g' aB h.pl (by decide) e
  oB:=h.oB
  oC:=h.oC
  bg:=by rw[au];exact h.bg.keep aw hR (fun k cur t aE bc=>g' aE h.pl (by rcases bc with rfl|rfl<;>decide))
  aD:=by rw[ax];exact jk h.aD aw fun k e=>fun a6=>lH h.aD h.pl (by decide) (a6 ▸ e)
  lI:=by rw[ax];exact h.lI.keep (aw.mono fun k _ A1=>hR k A1)
  ej:=by rw[bj];exact jk h.ej aw fun k e=>fun a6=>lH h.ej h.pl (by decide) (a6 ▸ e)
  oD:=by rw[bj];exact h.oD
  h0:=fun k CL=>⟨(h.h0 k CL).1,hN (h.h0 k CL).2 aw.size⟩
  hv:=h.hv
  l9:=h.l9
  mK:=h.mK
  aM:=h.aM.trans (aw.below _ h.aM.size fun k jE e=>by have:=h.l9;omega)}
theorem dV.Pg(h:dV w0 P R m L fu cv ov cx ox p w){l:Nat}(az:p.levels.length=l)(j:Nat)(b6:j<7):w.cell? ⟨L.b,l *7+j,none⟩=(l8 p.top ov)[j]?∧w.frozen? ⟨L.b,l *7+j,none⟩=false:=by have hlen:=h.ia.len;have hn:=h.kz;refine⟨?_,h.er.frozenAt _⟩;rw[h.er.cellAt (l *7+j) (by omega),xz (by omega),hlen,az,N5]
end
theorem jl.below{w0:aeo}{P:Nat}{p:cy}{w w':aeo}(h:jl w0 P p w)(ay:an w w w'):jl w0 P p w':=by obtain⟨R,m,L,fu,cv,ov,cx,ox,h⟩:=h;exact⟨R,m,L,fu,cv,ov,cx,ox,h.below ay⟩
def gi(w0:aeo)(P:Nat)(res:Except Nat cy)(e:Ending)(w':aeo):Prop:=Below w0.heap.size w0 w'∧match res with
 |.ok q=>e=ab (I 0)∧jl w0 P q w'
 |.error k=>e=ab (I (k:Int))
def vm(w0:aeo)(P:Nat)(R Q:afp)(w:aeo)(res:Except Nat cy)(e:Ending)(w':aeo):Prop:=Below w0.heap.size w0 w'∧aK Q w w'∧match res with
 |.ok q=>e=ab (I 0)∧∃rL m L fu cv ov cx ox,(∀k,R k→rL k)∧dV w0 P rL m L fu cv ov cx ox q w'
 |.error k=>e=ab (I (k:Int))
theorem vm.res{w0:aeo}{P:Nat}{R Q:afp}{w w':aeo}{res:Except Nat cy}{e:Ending}(h:vm w0 P R Q w res e w'):gi w0 P res e w':=by
 obtain⟨au,_,ax⟩:=h;refine⟨au,?_⟩;cases res with
 |ok q=>
  obtain⟨aA,rL,m,L,fu,cv,ov,cx,ox,_,bb⟩:=ax;exact⟨aA,_,_,_,_,_,_,_,_,bb⟩
 |error k=>exact ax
variable{w0 w w':aeo}{P:Nat}{R:afp}{res:Except Nat cy}{e:Ending}
theorem vm.wide{fa Q aaZ:afp}{X:aeo}(h:vm w0 P fa aaZ X res e w')(b2:an w w X)(au:∀k,Q k→k<X.heap.size→aaZ k)(ax:∀k,R k→fa k):vm w0 P R Q w res e w':=by
 obtain⟨a,b,c⟩:=h;refine⟨a,(aK.c4 b2).trans (b.mono fun k az aw=>au k aw az),?_⟩;cases res with
 |ok q=>
  obtain⟨e,rL,m,L,fu,cv,ov,cx,ox,g,h⟩:=c;exact⟨e,rL,m,L,fu,cv,ov,cx,ox,fun k aw=>g k (ax k aw),h⟩
 |error k=>exact c
theorem gi.nR{m:Nat}{L:nm}{fu:Int}{cv ov:ada}{cx ox:aev}{p:cy}(he:e=ab (I 0))(h:dV w0 P R m L fu cv ov cx ox p w):gi w0 P (.ok p) e w:=⟨h.aM,he,_,_,_,_,_,_,_,_,h⟩
theorem gi.get(h:gi w0 P res e w'){q:cy}(aG:res=.ok q):e=ab (I 0)∧jl w0 P q w':=by subst aG;exact h.2
theorem gi.err(h:gi w0 P res e w'){k:Nat}(aG:res=.error k):e=ab (I (k:Int)):=by subst aG;exact h.2
theorem gi.ret(h:gi w0 P res e w'):∃v:Int,e=ab (I v):=by
 cases res with
 |ok q=>exact⟨0,h.2.1⟩
 |error k=>exact⟨(k:Int),h.2⟩
theorem aa0{B g n c:Nat}{l:List b7}(h:w.ownsRow B de 2 (ag g 0 n c) n (nK l))(hn:n=l.length){i:Nat}(hi:i<l.length):ak w g (i *2) (I l[i].1)∧ak w g (i *2+1) (I l[i].2):=by obtain⟨au,ax⟩:=N3 hi;exact⟨(h.cellAt _ (by omega)).trans au,(h.cellAt _ (by omega)).trans ax⟩
theorem rK.Up{B:Nat}{cv:ada}{cs:List (List b7)}{xs:aev}(h:rK R B w cv cs xs){n:Nat}(hn:cs.length=n+1){c:List b7}(aB:cs[n]?=some c):∃K cap g cg,cv=ad (some (aj K 0)) (n+1) cap∧ak w K n (ad (some (aj g 0)) c.length cg)∧w.frozen? ⟨K,n,none⟩=false∧w.ownsRow B de 2 (ag g 0 c.length cg) c.length (nK c)∧¬R g:=by
 obtain⟨hi,rfl⟩:=List.getElem?_eq_some_iff.1 aB;obtain⟨g,cg,au,ax,aA⟩:=h.last n hi hn.symm;have a1:=h.own;rw[hn] at a1
 obtain⟨K,cap,aS⟩:∃K cap,cv=ad (some (aj K 0)) (n+1) cap:=by
  rcases a1.2 with ⟨_,aF⟩|⟨K,cap,cur,aS,_⟩
  ·omega
  ·exact⟨K,cap,aS⟩
 subst aS;exact⟨K,cap,g,cg,rfl,(a1.cellAt n (by omega)).trans au,a1.frozenAt n,ax,aA⟩
end c1
namespace c1
open Go.RowKit ef
variable{w:aeo}{xs:aev}
theorem alB{B g n c aR:Nat}{e:aai}{Z V:aev}(h:w.ownsRow B e aR (ag g 0 (n+1) c) (n+1) (xs++Z))(hx:xs.length=n *aR)(aS:V.length=aR):(ij w g (n *aR) V).ownsRow B e aR (ag g 0 (n+1) c) (n+1) (xs++V):=by
 have Ph:(n+1) *aR=n *aR+aR:=Uk n aR;refine⟨by rw[fH,hx,aS,Ph],?_⟩;rcases h.2 with ⟨aS,_⟩|⟨k,cap,cur,aw,bz,aE,au,ax,aA,bb⟩
 ·cases aS
 ·injection aw with eM _ jE;injection eM with eM;injection eM with eM;subst eM jE;have fw:n *aR+V.length≤cur.size:=(by rw[aS,aA,←Ph];exact Ul _ au);refine .inr ⟨g,c,_,rfl,bz,GG V aE,au,ax,by rw[JH];exact aA,?_⟩;have hd:=Ym (vs:=V) fw;rw[aS] at hd;rw[Ph,List.take_add,Yl (aP _),hd]
  congr 1
  have:=fS (List.take (n *aR)) bb;rw[xh,yL (by rw[Ph];omega),List.take_left' hx] at this;exact this
theorem alC{B g n c:Nat}{e:aai}{z0 z1 z2 z3 z4 z5 gZ gR fM z9 j4:ada}(h:w.ownsRow B e 11 (ag g 0 (n+1) c) (n+1) (xs++[z0,z1,z2,z3,z4,z5,gZ,gR,fM,z9,j4]))(hx:xs.length=n *11):
  ak w g (n *11) z0∧ak w g (n *11+1) z1∧ak w g (n *11+2) z2∧ak w g (n *11+3) z3∧ak w g (n *11+4) z4∧ak w g (n *11+5) z5∧ak w g (n *11+6) gZ∧ak w g (n *11+7) gR∧ak w g (n *11+8) fM∧ak w g (n *11+9) z9∧ak w g (n *11+10) j4:=by
 have key:∀j,j<11→w.cell? ⟨g,n *11+j,none⟩=[z0,z1,z2,z3,z4,z5,gZ,gR,fM,z9,j4][j]?:=by intro j b6;rw[h.cellAt (n *11+j) (by omega),xz (by omega),hx,N5]
 exact⟨key 0 (by decide),key 1 (by decide),key 2 (by decide),key 3 (by decide),key 4 (by decide),key 5 (by decide),key 6 (by decide),key 7 (by decide),key 8 (by decide),key 9 (by decide),key 10 (by decide)⟩
theorem set_comm{i j a b:Nat}{u v:ada}(h:i≠j):(w.setCell (aj i a) u).setCell (aj j b) v=(w.setCell (aj j b) v).setCell (aj i a) u:=by
 unfold World.setCell;simp only
 congr 1
 apply NM;intro k;rw[vU,vU,vU,vU];by_cases au:i=k
 ·subst au;rw[aN (eN h),aN (eN h)]
 ·rw[aN au,aN au]
theorem aa1{b L o:Nat}{u:ada}(h:L≠b):∀(vs:aev) {w:aeo} {m:Nat},ij (w.setCell (aj L o) u) b m vs=(ij w b m vs).setCell (aj L o) u
 |[],_,_=>rfl
 |v::vs,w,m=>by show ij ((w.setCell (aj L o) u).setCell (aj b m) v) b (m+1) vs=(ij (w.setCell (aj b m) v) b (m+1) vs).setCell (aj L o) u;rw[set_comm h];exact aa1 h vs
theorem alD{R:afp}{l:List iH}{ox V:aev}{d:Bool}{bs:dK}{s:bf}{pl:Ja}{cl:Nat}{pp:Ja}{cp:Nat}(h:da R w (p9 l) ox)(az:ox.length=l.length *11)(jK:V=U d::js bs (ad pl bs.l.length cl) (ad pp s.len cp))(ay:dw R w pl cl pp cp ⟨bs,s⟩):da R w (p9 (l++[(d,⟨bs,s⟩)])) (ox++V):=by rw[N1];refine da.append h (by rw[az,Eh]) ?_;subst jK;exact da.mk (S:=R) (w:=w) (a:=d) (b:=bs) (s:=s) (r:=.nil) (pl:=pl) (cl:=cl) (pp:=pp) (cp:=cp) (by rfl) ay trivial
theorem alE{B K n c i aR:Nat}{e:aai}{u:ada}(h:w.ownsRow B e aR (ag K 0 n c) n xs)(hi:i<n *aR):(w.setCell (aj K i) u).ownsRow B e aR (ag K 0 n c) n (xs.set i u):=by
 refine⟨by rw[OA];exact h.1,?_⟩;rcases h.2 with ⟨aS,_⟩|⟨k,cap,cur,aw,bz,aE,au,ax,aA,bb⟩
 ·cases aS
 ·injection aw with eM _ jE;injection eM with eM;injection eM with eM;subst eM jE;refine .inr ⟨K,c,cur.setIfInBounds i u,rfl,bz,dt u aE,au,ax,by rw[xg];exact aA,?_⟩;rw[S4,S5,bb]
theorem alF{fP:aev}{l:Nat}(az:fP.length=l *7)(v:nD)(ov HP:ada)(v8:List iH):(fP++l8 v ov).set (l *7+6) HP=fP++l8 {v with eg:=v8} HP:=by rw[St _ _ (by omega),az,N5];rfl
theorem dV.alG{w0:aeo}{P:Nat}{R:afp}{m:Nat}{L:nm}{fu:Int}{cv ov:ada}{cx ox:aev}{p:cy}{X bZ:aeo}{n l gg c:Nat}{Z V:aev}{d:Bool}{bs:dK}{s:bf}{pl:Ja}{cl:Nat}{pp:Ja}{cp:Nat}
  (h:dV w0 P R m L fu cv ov cx ox p X) (hn:p.top.eg.length=n) (az:p.levels.length=l) (aI:X.grownBy bZ ov.ownBlock) (ct:bZ.ownsRow w0.heap.size fA 11 (ag gg 0 (n+1) c) (n+1) (ox++Z)) (hw:some gg=ov.ownBlock∨X.heap.size≤gg)
  (jK:V=U d::js bs (ad pl bs.l.length cl) (ad pp s.len cp)) (ay:dw R X pl cl pp cp ⟨bs,s⟩):
  aK R X ((ij bZ gg (n *11) V).setCell (aj L.b (l *7+6)) (ag gg 0 (n+1) c))∧
  dV w0 P R m L fu cv (ag gg 0 (n+1) c) cx (ox++V) {p with top:={p.top with eg:=p.top.eg++[(d,⟨bs,s⟩)]}} ((ij bZ gg (n *11) V).setCell (aj L.b (l *7+6)) (ag gg 0 (n+1) c)):=by
 have Pj:V.length=11:=by rw[jK];rfl
 have Hu:ox.length=n *11:=by rw[h.aD.1,hn]
 have aa2:=alB ct Hu Pj;obtain⟨Ek,cur,gq⟩:=sG ct;obtain⟨_,aiM,ave⟩:=sG aa2;obtain⟨avf,avg,Pk⟩:=h.Pf;obtain⟨es,x3,kA⟩:=h.mp.map;have aa3:L.fP.length=l *7:=by rw[h.ia.len,az]
 have qX:L.n=l+1:=by rw[h.kz,az]
 have aa4:¬R gg:=by
  rcases hw with e|e
  ·exact fun aw=>(h.hv gg aw).HO e.symm
  ·intro aw;have:=(h.h0 gg aw).2;omega
 have aa5:∀k,k∈L.hs→k≠gg:=by
  intro k aw e;subst e;rcases hw with e|e
  ·exact h.oB k aw e.symm
  ·have:=(h.ia.wL k aw).2.1;omega
 have hne:∀k cs t dk,X.heap[k]?=some (.cells cs t dk)→t≠fA→ov.ownBlock≠some k∧k≠gg:=by intro k cs t dk aw bc;have au:=lH h.aD aw (eN bc);exact⟨au,g' ((aI.block k (lt_of_heap aw) (eN au)).trans aw) gq bc⟩
 have wv:∀k es c,X.heap[k]?=some (.map es c)→ov.ownBlock≠some k∧k≠gg:=by intro k es c aw;have au:=Pc h.aD aw;exact⟨au,(pO gq ((aI.block k (lt_of_heap aw) (eN au)).trans aw)).symm⟩
 have Uq:=hne _ _ _ _ Pk (by decide);have alH:aK (fun k=>ov.ownBlock≠some k∧k≠gg∧k≠L.b) X bZ:=aK.grown aI fun k e aw=>aw.1 e;have Pl:aK (fun k=>ov.ownBlock≠some k∧k≠gg∧k≠L.b) bZ (ij bZ gg (n *11) V):=BQ (fun aw=>aw.2.1 rfl) V;have hK:aK (fun k=>ov.ownBlock≠some k∧k≠gg∧k≠L.b) X ((ij bZ gg (n *11) V).setCell (aj L.b (l *7+6)) (ag gg 0 (n+1) c)):=(alH.trans Pl).trans (aK.set (a:=⟨L.b,l *7+6,none⟩) (fun aw=>aw.2.2 rfl) _);have dp:World.ownsRow (ij bZ gg (n *11) V) w0.heap.size gF 7 (ag L.b 0 L.n L.c) L.n (L.fP++l8 p.top ov):=jk (jk h.er (aK.grown (S:=fun k=>ov.ownBlock≠some k) aI fun k e aw=>aw e) fun k e=>by have a6:L.b=k:=(by simpa[Value.ownBlock] using e);rw[←a6];exact Uq.1) (BQ (S:=fun k=>k≠gg) (fun aw=>aw rfl) V) fun k e=>by have a6:L.b=k:=(by simpa[Value.ownBlock] using e);rw[←a6];exact Uq.2
 have zp:∀k cs t dk,X.heap[k]?=some (.cells cs t dk)→t≠fA→t≠gF→ov.ownBlock≠some k∧k≠gg∧k≠L.b:=fun k cs t dk aw au ax=>⟨(hne k cs t dk aw au).1,(hne k cs t dk aw au).2,g' aw Pk ax⟩;have HQ:∀k,R k→ov.ownBlock≠some k∧k≠gg∧k≠L.b:=fun k aw=>⟨(h.hv k aw).HO,fun e=>aa4 (e ▸ aw),(h.hv k aw).Lg⟩;have alI:∀k,k∈L.hs→ov.ownBlock≠some k∧k≠gg∧k≠L.b:=fun k aw=>⟨h.oB k aw,aa5 k aw,by obtain⟨_,_,c,aB⟩:=h.ia.wL k aw;exact g' aB Pk (by decide)⟩;have alJ:(p.top.eg++[(d,(⟨bs,s⟩:dq))]).length=n+1:=by rw[fH,hn];rfl
 refine⟨hK.mono fun k _ aw=>HQ k aw,?_⟩
 exact {
  pl:=hK.get (zp _ _ _ _ h.pl (by decide) (by decide)) h.pl
  mp:=h.mp.keep hK ⟨(wv _ _ _ kA).1,(wv _ _ _ kA).2,(pO Pk kA).symm⟩ HQ
  kz:=h.kz
  er:=by have au:=alE (u:=ad (some (aj gg 0)) (n+1) c) (i:=l *7+6) dp (by omega);rw[alF aa3 p.top ov _ (p.top.eg++[(d,⟨bs,s⟩)])] at au;exact au
  ia:=h.ia.keep hK HQ alI
  oB:=fun k aw e=>aa5 k aw (by simpa[Value.ownBlock] using e.symm)
  oC:=h.oC
  bg:=h.bg.keep hK HQ (fun k cur t aE bc=>zp _ _ _ _ aE (by rcases bc with rfl|rfl<;>decide) (by rcases bc with rfl|rfl<;>decide))
  aD:=by show World.ownsRow _ _ _ _ _ (p.top.eg++[(d,(⟨bs,s⟩:dq))]).length _;rw[alJ];refine jk aa2 (aK.set (S:=fun k=>k≠L.b) (a:=⟨L.b,l *7+6,none⟩) (fun aw=>aw rfl) _) fun k e a6=>?_;have:gg=k:=(by simpa[Value.ownBlock] using e);exact Uq.2 (a6.symm.trans this.symm)
  lI:=alD (h.lI.keep (hK.mono fun k _ aw=>HQ k aw)) (by rw[Hu,hn]) jK (ay.keep (hK.mono fun k _ aw=>HQ k aw))
  ej:=jk h.ej hK fun k e=>by obtain⟨_,_,c,aB⟩:=ky h.ej e;exact zp _ _ _ _ aB (by decide) (by decide)
  oD:=h.oD
  h0:=fun k aw=>⟨(h.h0 k aw).1,hN (h.h0 k aw).2 hK.size⟩
  hv:=fun k aw=>{h.hv k aw with HO:=fun e=>aa4 ((show gg=k by simpa[Value.ownBlock] using e)▸ aw)}
  l9:=h.l9
  mK:=h.mK
  aM:=h.aM.trans (hK.below _ h.aM.size fun k aw=>⟨fun e=>by have:=(ky h.aD e).1;omega,by omega,by omega⟩)}
theorem aa6(w0:aeo)(P:Nat)(p:cy)(w:aeo)(H:af (jl w0 P p w))(hs:p.bQ.length≤1000000∧∀c∈p.bQ,0<c.length∧c.length≤1000000)(f:Bool)(hf:af (tf p.bQ=f)):
  Calls Tryz.prog 120 #[ah P 0] w fun e w'=>e=ab (U f)∧an w w w':=by
 obtain⟨R,m,L,fu,cv,ov,cx,ox,h⟩:=H.out;have wM:=cell_of (i:=20) h.pl rfl;have oj:=h.bg;have aJ:=hf.out;clear h H hf;generalize p.bQ=cs at *
 obtain⟨au,ax⟩:=hs;cases gX:cs.length with
 |zero=>
  have aF:cs=[]:=lP gX;subst aF;obtain⟨q,d,rfl⟩:=iw oj.own;subst aJ;clear oj au ax gX;simp only[kZ] at wM;go_enter Tryz.func120,Tryz.ntmps120;go_wp2_with fail;go_ret;exact⟨rfl,Below.refl _ _⟩
 |succ n=>
  have hi:n<cs.length:=(by omega);obtain⟨c,aB⟩:=aq (cs[n]);have E1:c∈cs:=(by rw[←aB];exact k3 _);obtain⟨K,cap,g,cg,rfl,bU,_,dp,_⟩:=oj.Up gX (c:=c) (by rw[iW hi,aB]);obtain⟨m1,m2⟩:=ax c E1;have hlast:cs.getLast?=some c:=(by rw[Um,gX];simp only[Pb];rw[iW hi,aB]);have CM:(decide (4≤c.length)&&decide (c.head?=c.getLast?))=f:=(by rw[←aJ];unfold tf;rw[hlast]);obtain⟨k,aw⟩:∃k,c.length=k+1:=⟨c.length-1,by omega⟩;have aE:c.head?=some c[0]:=(by rw[List.head?_eq_getElem?,iW (by omega)]);have aI:c.getLast?=some c[k]:=(by rw[Um,show c.length-1=k by omega];rw[iW (by omega)]);rw[aE,aI] at CM;obtain⟨a0,ew⟩:=aa0 dp rfl (i:=0) (by omega);obtain⟨cH,cw⟩:=aa0 dp rfl (i:=k) (by omega);obtain⟨⟨a7,a'⟩,ha⟩:=aq (c[0]);obtain⟨⟨aX,a8⟩,ay⟩:=aq (c[k]);rw[ha] at a0 ew CM;rw[ay] at cH cw CM;rw[aw] at bU m2 CM;have fp:=ao CM;have iX:n≤1000000:=(by omega);clear CM ha ay aE aI hlast dp oj ax E1 aB aJ gX aw hi m1;obtain⟨ow,y5⟩:=aq (k+1);obtain⟨cI,hU⟩:=aq (n+1);rw[y5] at bU m2 fp;rw[hU] at wM;have ry:ae ((cI:Int)-1)=(n:Int):=(by rw[gw _ (by omega)];omega);have x4:ae ((ow:Int)-1)=(k:Int):=(by rw[gw _ (by omega)];omega);have jf:(((cI:Int)==0):Bool)=false:=(by rw[fO];omega);go_enter Tryz.func120,Tryz.ntmps120;by_cases bb:4≤ow
  ·have hd:decide ((4:Int)≤(ow:Int))=true:=(by rw[p0];omega);have z0:(0:Int)<(ow:Int):=(by omega);have z1:0<ow:=(by omega);have z2:k<ow:=(by omega);have z3:(k:Int)<(ow:Int):=(by omega);obtain⟨aY,my⟩:=aq (a7==aX);obtain⟨a6,uI⟩:=aq (a'==a8);have Ur:f=(aY&&a6):=(by rw[←fp.out,←my,←uI,yN];simp only[qv,p0,xl,r0,fg];exact⟨fun h=>h.2,fun h=>⟨bb,h⟩⟩);subst Ur;clear fp;cases aY<;>cases a6
   all_goals
    go_upto_region 3 with fail
    go_quiet (fail)
    go_upto_region 4 with fail
    go_quiet (fail)
    go_wp2_with fail;go_ret;exact⟨rfl,iu (Below.refl _ _) _⟩
  ·have hd:decide ((4:Int)≤(ow:Int))=false:=(by rw[decide_eq_false_iff_not];omega);go_upto_region 3 with fail
   go_quiet (fail)
   go_upto_region 4 with fail
   go_quiet (fail)
   go_wp2_with fail;go_ret;have Ur:f=false:=(by rw[←fp.out];simp;omega);subst Ur;exact⟨rfl,iu (Below.refl _ _) _⟩
end c1
