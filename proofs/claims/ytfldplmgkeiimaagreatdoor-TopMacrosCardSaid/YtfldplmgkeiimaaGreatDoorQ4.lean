/- Lemmas. -/
import Derived.Test.YtfldplmgkeiimaaGreatDoorQ3
import Derived.Laws.Rows
set_option linter.all false
set_option maxRecDepth 100000
set_option maxHeartbeats 3200000
namespace Go.Proofs.YtfldplmgkeiimaaGreatDoor
abbrev G0:=@Nat.add_zero
abbrev oP:=@Nat.lt_irrefl
abbrev Y6:=@List.take_append_of_le_length
abbrev Y7:=@List.drop_append_of_le_length
abbrev s6:=@List.getElem?_take
abbrev Av:=@List.getElem?_drop
abbrev JW:=@Bool.false_and
abbrev cX:=@IntWalk.i64_in
abbrev NT:=@Bool.true_and
abbrev rX:=@Calls.quiet_of_same
namespace uy
open dH bS
variable{bu:Int}{ms:List jz}{ap:Int→Option ks}{pk:Int}{at_:bK}{os:List dx}{m:Int}
def za(ap:Int→Option ks)(n:Int)(a:ks):Int→Option ks:=fun j=>if j=n then some a else ap j
def Aw:Nat→List cz→(Int→Option ks)→Int→Option ks
 |_,[],f=>f
 |i,p::l,f=>Aw (i+1) l (za f (20+i) (uA p))
theorem Y8{n:Int}(h:ap n=none):Ah (fO bu ms ap pk at_ os m) n=false:=by unfold Ah fO;simp[h]
theorem akr{i:Nat}{p:cz}(h:p.e7)(hn:ap (20+i)=none):j' (fO bu ms ap pk at_ os m) (mV i p).2=.ok (fO bu ms (za ap (20+i) (uA p)) pk at_ os m):=by
 have ax:(mV i p).2.k=10:=by unfold mV D7 py;split<;>rfl
 have fv:(mV i p).2.n=20+i:=by unfold mV D7 py;split<;>rfl
 have bB:(mV i p).2.t=if p.d=true then[67] else[82]:=by unfold mV D7 py;split<;>rfl
 have hu:(mV i p).2.b6=if p.d=true then[ku p.w] else[ku p.w,ku p.h]:=by unfold mV D7 py;split<;>rfl
 obtain⟨c,hc⟩:=ar ((mV i p).2);rw[hc] at ax fv bB hu⊢;have e:j' (fO bu ms ap pk at_ os m) c=dH.mO (fO bu ms ap pk at_ os m) c:=by unfold j' Ai;simp[ax,fO]
 rw[e];unfold dH.mO;rw[fv,bB,hu,Y8 hn,aR (by simp[fO])];have Cf:j9 (if p.d=true then[67] else[82]) (if p.d=true then[ku p.w] else[ku p.w,ku p.h]) (fO bu ms ap pk at_ os m).unit (fO bu ms ap pk at_ os m).fB=.ok ((uA p).cF,(uA p).r):=Sd p h ms;rw[Cf];cases hd:p.d<;>simp[fO,za,uA,hd]<;>rfl
theorem Y9:∀(l:List cz) (i k:Nat) (ap:Int→Option ks) (r:List C),(∀p∈l,p.e7)→(∀j:Nat,i≤j→ap (20+j)=none)→lr ((n8 i l).map Prod.snd++r) k (fO bu ms ap pk at_ os m)=lr r (k+l.length) (fO bu ms (Aw i l ap) pk at_ os m)
 |[],i,k,ap,r,_,_=>rfl
 |p::l,i,k,ap,r,h,hn=>by
  show lr ((mV i p).2::((n8 (i+1) l).map Prod.snd++r)) k _=_;rw[Au (akr (h p (by simp)) (hn i (bx _))),Y9 l (i+1) (k+1) _ r (fun q aH=>h q (by simp[aH])) fun j cr=>?_]
  ·rw[eP,show k+1+l.length=k+(l.length+1) by omega];rfl
  ·unfold za;rw[aR (by omega)];exact hn j (by omega)
theorem Se:∀(l:List cz) (i:Nat) (f:Int→Option ks) (n:Int),(n<20+i∨20+(i:Int)+l.length≤n)→Aw i l f n=f n
 |[],_,_,_,_=>rfl
 |p::l,i,f,n,h=>by simp only[eP,NA,NB] at h;show Aw (i+1) l _ n=_;rw[Se l (i+1) _ n (by simp only[NA,NB];omega)];unfold za;rw[aR (by omega)]
theorem Y':∀(l:List cz) (i:Nat) (f:Int→Option ks) (k:Nat) (p:cz),l[k]?=some p→Aw i l f (20+((i+k:Nat):Int))=some (uA p)
 |[],_,_,_,_,h=>by simp at h
 |p::l,i,f,0,q,h=>by obtain rfl:p=q:=(by simpa using h);show Aw (i+1) l _ _=_;rw[Se l (i+1) _ _ (by simp only[NA,NB,G0];omega)];unfold za;rw[a8 (by simp)]
 |p::l,i,f,k+1,q,h=>by have:=Y' l (i+1) (za f (20+i) (uA p)) k q (by simpa using h);rw[show i+1+k=i+(k+1) by omega] at this;exact this
def Sf(s:dK):ks:=⟨s,0,false,false,[]⟩
theorem Za{s:dK}(hn:ap 10=none)(hs:j9 [84] [] 1 ms=.ok (s,0)):j' (fO bu ms ap pk at_ os m) jC.2=.ok (fO bu ms (za ap 10 (Sf s)) pk at_ os m):=by
 have e:j' (fO bu ms ap pk at_ os m) jC.2=dH.mO (fO bu ms ap pk at_ os m) jC.2:=by unfold j' Ai;simp[fO,jC,py,b4,aN]
 rw[e];unfold dH.mO;rw[show jC.2.n=10 from rfl,Y8 hn,aR (by simp[fO])];have Cf:j9 jC.2.t jC.2.b6 (fO bu ms ap pk at_ os m).unit (fO bu ms ap pk at_ os m).fB=.ok (s,0):=hs;rw[Cf];rfl
theorem Zb{n:Int}(h:(ap n).isSome=true):j' (fO bu ms ap pk at_ os m) {b4 6 with n:=n}=.ok (fO bu ms ap n at_ os m):=by unfold j' DW;simp[fO,b4,aN,h]
theorem Zc{a:ks}{s:dK}{X Y:Nat}(hx:X<500000)(hy:Y<500000)(ha:ap pk=some a)(ay:a.block=false)(hs:po {h1 with eL:=(1000 *(X:Int),1000 *(Y:Int))} a.cF=some s)(eC:okV s=true)(hm:m<min (max bu 0) 100000):j' (fO bu ms ap pk at_ os m) (jk (fN X) (fN Y) 51).2=.ok (fO bu ms ap pk (1000 *(X:Int),1000 *(Y:Int)) (os++[(true,s)]) (m+1)):=by
 have G1:iz (fO bu ms ap pk at_ os m) (fN X) at_.1=some (1000 *(X:Int)):=YV hx _;have aks:iz (fO bu ms ap pk at_ os m) (fN Y) at_.2=some (1000 *(Y:Int)):=YV hy _;have e:j' (fO bu ms ap pk at_ os m) (jk (fN X) (fN Y) 51).2=q0 (fO bu ms ap pk at_ os m) (jk (fN X) (fN Y) 51).2:=by unfold j';simp[fO,jk,b4,aN]
 rw[e];unfold q0;rw[aR (by simp[fO])];show (match iz (fO bu ms ap pk at_ os m) (fN X) at_.1 with|none=>_|some x=>_)=_;rw[G1];show (match iz (fO bu ms ap pk at_ os m) (fN Y) at_.2 with|none=>_|some x=>_)=_;rw[aks];show (match sV (fO bu ms ap pk at_ os m) (1000 *(X:Int),1000 *(Y:Int)) with|.error e=>_|.ok q=>_)=_;have akt:sV (fO bu ms ap pk at_ os m) (1000 *(X:Int),1000 *(Y:Int))=.ok (fO bu ms ap pk at_ (os++[(true,s)]) (m+1)):=by unfold sV;show (match ap pk with|none=>_|some a=>_)=_;rw[ha];simp only;rw[aR (by simp[fO]),a8 ay];unfold kt;show (match po {h1 with eL:=(1000 *(X:Int),1000 *(Y:Int))} a.cF with|none=>_|some m=>_)=_;rw[hs];simp only;unfold oK;rw[aR (by simp[eC]),aR (by simp only[fO];omega)];rfl
 rw[akt];rfl
end uy
namespace c4
open Go.RowKit dH
abbrev i7:TypeId:=71
abbrev k6:TypeId:=78
abbrev eQ:TypeId:=80
abbrev dz:TypeId:=75
abbrev dr:Value:=J 0
structure aQ(S:afp)(w w':aeo):Prop where
 os:w'.os=w.os
 tape:w'.tape=w.tape
 output:w'.output=w.output
 size:w.heap.size≤w'.heap.size
 block:∀k,S k→k<w.heap.size→w'.heap[k]?=w.heap[k]?
theorem aQ.refl(S:afp)(w:aeo):aQ S w w:=⟨rfl,rfl,rfl,bx _,fun _ _ _=>rfl⟩
theorem aQ.trans{S:afp}{a b c:aeo}(h:aQ S a b)(g:aQ S b c):aQ S a c:=⟨g.os.trans h.os,g.tape.trans h.tape,g.output.trans h.output,dB h.size g.size,fun k ax aA=>(g.block k ax (jN aA h.size)).trans (h.block k ax aA)⟩
variable{S:afp}{w w':aeo}
theorem aQ.dI(h:ao w w w'):aQ S w w':=⟨h.os,h.tape,h.output,h.size,fun k _ aA=>h.block k aA⟩
theorem aQ.mono{R:afp}(h:aQ S w w')(hR:∀k,k<w.heap.size→R k→S k):aQ R w w':=⟨h.os,h.tape,h.output,h.size,fun k ax aA=>h.block k (hR k aA ax) aA⟩
theorem aQ.below(B:Nat)(h:aQ S w w')(bL:B≤w.heap.size)(hS:∀k,k<B→S k):Below B w w':=⟨h.os,h.tape,h.output,h.size,fun k ax=>h.block k (hS k ax) (jN ax bL)⟩
theorem aQ.get(h:aQ S w w'){k:Nat}{o:Obj}(ax:S k)(bl:w.heap[k]?=some o):w'.heap[k]?=some o:=(h.block k ax (Array.getElem?_eq_some_iff.1 bl).1).trans bl
theorem aQ.grown{row:Option Nat}(h:w.grownBy w' row)(hr:∀k,row=some k→¬S k):aQ S w w':=⟨h.os,h.tape,h.output,h.size,fun k ax aA=>h.block k aA fun e=>hr k e.symm ax⟩
theorem aQ.set{a:Addr}(h:¬S a.block)(u:ada):aQ S w (w.setCell a u):=⟨rfl,rfl,rfl,by simp[World.setCell],fun k ax _=>uo _ _ _ _ fun e=>h (e ▸ ax)⟩
theorem aQ.alloc(S:afp)(w:aeo)(o:Obj):aQ S w (w.alloc o):=.dI ((Below.refl _ _).alloc (bx _) _)
abbrev mo:Nat:=1000000000
def h6(S:afp)(w:aeo)(p:Ja)(l:List bK):Prop:=l.length≤mo∧(0<l.length→∃(b o:Nat) (cs:ajv),p=some ⟨b,o,none⟩∧S b∧an w b cs i7∧∀i (hi:i<l.length),cs[o+i *2]?=some (I l[i].1)∧cs[o+i *2+1]?=some (I l[i].2))
def iC(S:afp)(w:aeo)(p:Ja)(l:List (List bK)):Prop:=l.length≤mo∧(0<l.length→∃(b o:Nat) (cs:ajv),p=some ⟨b,o,none⟩∧S b∧an w b cs k6∧∀i (hi:i<l.length),∃q c,cs[o+i]?=some (.slice q l[i].length c)∧l[i].length≤c∧h6 S w q l[i])
abbrev ke(b:cJ)(iP cq:ada):List Value:=[I b.k,I b.a.1,I b.a.2,I b.b.1,I b.b.2,I b.c.1,I b.c.2,I b.r,iP,cq]
abbrev q6(b:cJ)(iP cq:ada):Array Value:= #[I b.k,I b.a.1,I b.a.2,I b.b.1,I b.b.2,I b.c.1,I b.c.2,I b.r,iP,cq]
abbrev iD(b:cJ)(iP cq:ada):Value:=.agg (q6 b iP cq)
def ds(S:afp)(w:aeo):bc→aev→Prop
 |.nil,_=>True
 | .cons a b s r,xs=>(∃(pl:Ja) (cl:Nat) (pp:Ja) (cp:Nat),xs.take 11=U a::ke b (ad pl b.l.length cl) (ad pp s.len cp)∧b.l.length≤cl∧s.len≤cp∧iC S w pl b.l∧s.len≤mo∧
  (0<s.len→∃(k o:Nat) (cs:ajv),pp=some ⟨k,o,none⟩∧S k∧an w k cs eQ∧ds S w s (cs.toList.drop o)))∧ds S w r (xs.drop 11)
def hM(S:afp)(w:aeo)(p:Ja)(s:bc):Prop:=s.len≤mo∧(0<s.len→∃(k o:Nat) (cs:ajv),p=some ⟨k,o,none⟩∧S k∧an w k cs eQ∧ds S w s (cs.toList.drop o))
structure dv(S:afp)(w:aeo)(pl:Ja)(cl:Nat)(pp:Ja)(cp:Nat)(s:dK):Prop where
 l:iC S w pl s.b.l
 p:hM S w pp s.p
 cl:s.b.l.length≤cl
 cp:s.p.len≤cp
theorem h6.nil(S:afp)(w:aeo)(p:Ja):h6 S w p []:=⟨eE _,fun h=>absurd h (oP _)⟩
theorem iC.nil(S:afp)(w:aeo)(p:Ja):iC S w p []:=⟨eE _,fun h=>absurd h (oP _)⟩
theorem hM.nil(S:afp)(w:aeo)(p:Ja):hM S w p .nil:=⟨eE _,fun h=>absurd h (oP _)⟩
theorem dv.bare(S:afp)(w:aeo)(p q:Ja)(b:cJ)(cl cp:Nat)(ay:b.l=[]):dv S w p cl q cp ⟨b,.nil⟩:=⟨by rw[show (⟨b,.nil⟩:dK).b.l=[] from ay];exact .nil _ _ _,.nil _ _ _,by rw[show (⟨b,.nil⟩:dK).b.l=[] from ay];exact eE _,eE _⟩
theorem lt_of_heap{k:Nat}{o:Obj}(h:w.heap[k]?=some o):k<w.heap.size:=(Array.getElem?_eq_some_iff.1 h).1
variable{a:Bool}{b:cJ}{s r:bc}{xs:aev}
theorem ds.head(h:ds S w (.cons a b s r) xs):
  ∃(pl:Ja) (cl:Nat) (pp:Ja) (cp:Nat),xs.take 11=U a::ke b (ad pl b.l.length cl) (ad pp s.len cp)∧dv S w pl cl pp cp ⟨b,s⟩:=by
 obtain⟨⟨pl,cl,pp,cp,av,az,aF,bk,b9,cW⟩,_⟩:=h;exact⟨pl,cl,pp,cp,av,bk,⟨b9,cW⟩,az,aF⟩
theorem ds.tail(h:ds S w (.cons a b s r) xs):ds S w r (xs.drop 11):=h.2
theorem ds.mk{pl:Ja}{cl:Nat}{pp:Ja}{cp:Nat}(h:xs.take 11=U a::ke b (ad pl b.l.length cl) (ad pp s.len cp))(hs:dv S w pl cl pp cp ⟨b,s⟩)(hr:ds S w r (xs.drop 11)):ds S w (.cons a b s r) xs:=
 ⟨⟨pl,cl,pp,cp,h,hs.cl,hs.cp,hs.l,hs.p.1,hs.p.2⟩,hr⟩
section
variable{S R:afp}{w w':aeo}
variable{p:Ja}{l:List bK}
theorem h6.keep(h:h6 S w p l)(ax:aQ S w w'):h6 S w' p l:=by refine⟨h.1,fun aA=>?_⟩;obtain⟨b,o,cs,rfl,bL,aJ,hc⟩:=h.2 aA;exact⟨b,o,cs,rfl,bL,ax.get bL aJ,hc⟩
theorem h6.mono(h:h6 S w p l)(ax:∀k,k<w.heap.size→S k→R k):h6 R w p l:=by refine⟨h.1,fun aA=>?_⟩;obtain⟨b,o,cs,rfl,bL,aJ,hc⟩:=h.2 aA;exact⟨b,o,cs,rfl,ax _ (lt_of_heap aJ) bL,aJ,hc⟩
theorem iC.keep{p:Ja}{l:List (List bK)}(h:iC S w p l)(ax:aQ S w w'):iC S w' p l:=by refine⟨h.1,fun aA=>?_⟩;obtain⟨b,o,cs,rfl,bL,aJ,hc⟩:=h.2 aA;refine⟨b,o,cs,rfl,bL,ax.get bL aJ,fun i hi=>?_⟩;obtain⟨q,c,aH,qV,bl⟩:=hc i hi;exact⟨q,c,aH,qV,bl.keep ax⟩
theorem iC.mono{p:Ja}{l:List (List bK)}(h:iC S w p l)(ax:∀k,k<w.heap.size→S k→R k):iC R w p l:=by refine⟨h.1,fun aA=>?_⟩;obtain⟨b,o,cs,rfl,bL,aJ,hc⟩:=h.2 aA;refine⟨b,o,cs,rfl,ax _ (lt_of_heap aJ) bL,aJ,fun i hi=>?_⟩;obtain⟨q,c,aH,qV,bl⟩:=hc i hi;exact⟨q,c,aH,qV,bl.mono ax⟩
theorem ds.keep(ax:aQ S w w'):∀{s:bc} {xs:aev},ds S w s xs→ds S w' s xs
 |.nil,_,_=>trivial
 |.cons a b s r,xs,h=>by obtain⟨⟨pl,cl,pp,cp,av,az,aF,bk,eN,b9⟩,cW⟩:=h;refine⟨⟨pl,cl,pp,cp,av,az,aF,bk.keep ax,eN,fun aA=>?_⟩,ds.keep ax cW⟩;obtain⟨k,o,cs,e,hS,aJ,hp⟩:=b9 aA;exact⟨k,o,cs,e,hS,ax.get hS aJ,ds.keep ax hp⟩
theorem ds.mono(ax:∀k,k<w.heap.size→S k→R k):∀{s:bc} {xs:aev},ds S w s xs→ds R w s xs
 |.nil,_,_=>trivial
 |.cons a b s r,xs,h=>by obtain⟨⟨pl,cl,pp,cp,av,az,aF,bk,eN,b9⟩,cW⟩:=h;refine⟨⟨pl,cl,pp,cp,av,az,aF,bk.mono ax,eN,fun aA=>?_⟩,ds.mono ax cW⟩;obtain⟨k,o,cs,e,hS,aJ,hp⟩:=b9 aA;exact⟨k,o,cs,e,ax _ (lt_of_heap aJ) hS,aJ,ds.mono ax hp⟩
theorem hM.keep{p:Ja}{s:bc}(h:hM S w p s)(ax:aQ S w w'):hM S w' p s:=by refine⟨h.1,fun aA=>?_⟩;obtain⟨k,o,cs,e,hS,aJ,hp⟩:=h.2 aA;exact⟨k,o,cs,e,hS,ax.get hS aJ,ds.keep ax hp⟩
theorem hM.mono{p:Ja}{s:bc}(h:hM S w p s)(ax:∀k,k<w.heap.size→S k→R k):hM R w p s:=by refine⟨h.1,fun aA=>?_⟩;obtain⟨k,o,cs,e,hS,aJ,hp⟩:=h.2 aA;exact⟨k,o,cs,e,ax _ (lt_of_heap aJ) hS,aJ,ds.mono ax hp⟩
theorem dv.keep{pl pp:Ja}{cl cp:Nat}{s:dK}(h:dv S w pl cl pp cp s)(ax:aQ S w w'):dv S w' pl cl pp cp s:=⟨h.l.keep ax,h.p.keep ax,h.cl,h.cp⟩
theorem dv.mono{pl pp:Ja}{cl cp:Nat}{s:dK}(h:dv S w pl cl pp cp s)(ax:∀k,k<w.heap.size→S k→R k):dv R w pl cl pp cp s:=⟨h.l.mono ax,h.p.mono ax,h.cl,h.cp⟩
theorem dv.below{pl pp:Ja}{cl cp:Nat}{s:dK}(h:dv S w pl cl pp cp s)(ay:ao w w w'):dv S w' pl cl pp cp s:=h.keep (.dI ay)
theorem iC.below{l:List (List bK)}(h:iC S w p l)(ay:ao w w w'):iC S w' p l:=h.keep (.dI ay)
theorem h6.below(h:h6 S w p l)(ay:ao w w w'):h6 S w' p l:=h.keep (.dI ay)
theorem hM.below{s:bc}(h:hM S w p s)(ay:ao w w w'):hM S w' p s:=h.keep (.dI ay)
theorem ds.below{s:bc}{xs:aev}(h:ds S w s xs)(ay:ao w w w'):ds S w' s xs:=h.keep (.dI ay)
theorem dv.lt{pl pp:Ja}{cl cp:Nat}{s:dK}(h:dv S w pl cl pp cp s):dv (fun k=>S k∧k<w.heap.size) w pl cl pp cp s:=h.mono fun _ av az=>⟨az,av⟩
end
theorem ds.append{S:afp}{w:aeo}:∀{s:bc} {xs fw:aev} {t:bc},ds S w s xs→xs.length=s.len *11→ds S w t fw→ds S w (s.append t) (xs++fw)
 |.nil,xs,fw,t,_,aA,h=>by obtain rfl:xs=[]:=rQ (by simpa[bc.len] using aA);exact h
 |.cons a b s r,xs,fw,t,h,aA,g=>by obtain⟨⟨pl,cl,pp,cp,av,az⟩,cW⟩:=h;have G2:11≤xs.length:=(by rw[aA];simp only[bc.len];omega);refine⟨⟨pl,cl,pp,cp,by rw[Y6 G2];exact av,az⟩,?_⟩;rw[Y7 G2];exact ds.append cW (by simp only[gI,aA,bc.len];omega) g
theorem Zd{cs:ajv}{n:Nat}{v0 v1 v2 v3 v4 v5 v6 db c8 v9 v10:ada}(h:(cs.toList.drop n).take 11=[v0,v1,v2,v3,v4,v5,v6,db,c8,v9,v10]):
  cs[n]?=some v0∧cs[n+1]?=some v1∧cs[n+2]?=some v2∧cs[n+3]?=some v3∧cs[n+4]?=some v4∧cs[n+5]?=some v5∧cs[n+6]?=some v6∧cs[n+7]?=some db∧cs[n+8]?=some c8∧cs[n+9]?=some v9∧cs[n+10]?=some v10:=by
 have key:∀j,j<11→cs[n+j]?=[v0,v1,v2,v3,v4,v5,v6,db,c8,v9,v10][j]?:=by intro j cr;rw[←h,s6,a8 cr,Av];simp
 exact⟨key 0 (by decide),key 1 (by decide),key 2 (by decide),key 3 (by decide),key 4 (by decide),key 5 (by decide),key 6 (by decide),key 7 (by decide),key 8 (by decide),key 9 (by decide),key 10 (by decide)⟩
end c4
namespace c4
open Go.RowKit dH
abbrev l1(p:bK):Value:=.agg #[I p.1,I p.2]
abbrev eZ(p:bK):Obj:=.cells #[I p.1,I p.2] i7
theorem ej{a b:Bool}(h:a=b):Ending.returned (U a)=ab (U b):=by rw[h]
def NU(k:Int)(a b c:bK)(r:Int)(nl kL:Nat):Bool:=
 if (k≠2∧0<nl)∨(k≠6∧0<kL) then false
 else if k=1 then decide (b=z2)&&decide (c=z2)
 else if k=3∨k=4 then decide (c=z2)
 else if k=2∨k=6 then decide (a=z2)&&(decide (b=z2)&&(decide (c=z2)&&decide (r=0)))
 else true
theorem Ax(p:bK)(w:aeo):Calls Tryz.prog 245 #[l1 p] w fun e w'=>e=ab (U (fZ p))∧w.alloc (eZ p)=w':=by
 obtain⟨x,y⟩:=p;go_enter Tryz.func245,Tryz.ntmps245;go_wp2_with fail
 all_goals
  go_ret;refine⟨ej (Bool.eq_iff_iff.2 ⟨fun h=>?_,fun h=>?_⟩),rfl⟩<;>simp only[fZ,ix,iO,pq] at h⊢<;>omega
theorem NV(r:Int)(w:aeo):Calls Tryz.prog 246 #[I r] w fun e w'=>e=ab (U (vJ r))∧w=w':=by
 go_enter Tryz.func246,Tryz.ntmps246;go_wp2_with fail
 all_goals
  go_ret;refine⟨ej (Bool.eq_iff_iff.2 ⟨fun h=>?_,fun h=>?_⟩),rfl⟩<;>simp only[vJ,ix,iO,pq] at h⊢<;>omega
theorem aku(k aW aY bb bh cx bw r:Int)(pl pp:Ja)(nl kL cl cp:Nat)(w:aeo):
  Calls Tryz.prog 244 #[.agg #[I k,I aW,I aY,I bb,I bh,I cx,I bw,I r,ad pl nl cl,ad pp kL cp]] w fun e w'=>e=ab (U (NU k (aW,aY) (bb,bh) (cx,bw) r nl kL))∧ao w w w':=by
 go_enter Tryz.func244,Tryz.ntmps244;go_wp2_with fail
 all_goals
  go_ret;refine⟨ej ?_,((Below.refl _ _).alloc (bx _) _).alloc (by simp) _⟩;first|(simp[NU,z2, *];done)|grind [NU,z2]
def zb:List (List bK)→Int→Bool
 |[],_=>true
 |c::l,left=>if left<(c.length:Int) then false else c.all fZ&&zb l (left-c.length)
theorem akv(l:List (List bK)):∀n:Int,0≤n→zb l n=(decide (((l.map List.length).sum:Int)≤n)&&l.all fun c=>c.all fZ):=by
 induction l with
 |nil=>intro n hn;simp[zb,hn]
 |cons c l cT=>
  intro n hn;unfold zb;by_cases h:n<(c.length:Int)
  ·rw[a8 h];have az:¬((((c::l).map List.length).sum:Nat):Int)≤n:=(by simp only[oH,List.sum_cons];omega);rw[eT az,JW]
  ·rw[aR h,cT _ (by omega)];have az:decide ((((c::l).map List.length).sum:Nat)≤n)=decide ((((l.map List.length).sum:Nat):Int)≤n-c.length):=(by apply decide_eq_decide.2;simp only[oH,List.sum_cons];omega);rw[az,GF];cases c.all fZ<;>simp
theorem akw(l:List (List bK)):vK l=zb l 1000:=by
 rw[akv _ _ (by decide)];unfold vK
 congr 1
 apply decide_eq_decide.2;omega
theorem h6.at{S:afp}{w:aeo}{p:Ja}{l:List bK}(h:h6 S w p l){i:Nat}(hi:i<l.length){q:bK}(aH:l[i]=q):∃b o,p=some ⟨b,o,none⟩∧ak w b (o+i *2) (I q.1)∧ak w b (o+i *2+1) (I q.2):=by obtain⟨b,o,cs,rfl,_,aJ,hc⟩:=h.2 (by omega);obtain⟨av,az⟩:=hc i hi;rw[aH] at av az;exact⟨b,o,rfl,by simp[World.cell?,aJ,av],by simp[World.cell?,aJ,az]⟩
theorem iC.at{S:afp}{w:aeo}{p:Ja}{l:List (List bK)}(h:iC S w p l){i:Nat}(hi:i<l.length){r:List bK}(hr:l[i]=r):∃b o q c,p=some ⟨b,o,none⟩∧ak w b (o+i) (ad q r.length c)∧r.length≤c∧h6 S w q r:=by obtain⟨b,o,cs,rfl,_,aJ,hc⟩:=h.2 (by omega);obtain⟨q,c,av,az,aF⟩:=hc i hi;rw[hr] at av az aF;exact⟨b,o,q,c,rfl,by simp[World.cell?,aJ,av],az,aF⟩
theorem akx(S:afp)(p:Ja)(l:List (List bK))(n c:Nat)(hn:n=l.length)(w:aeo)(H:af (iC S w p l))(b:Bool)(ay:af (vK l=b)):
  Calls Tryz.prog 247 #[ad p n c] w fun e w'=>e=ab (U b)∧ao w w w':=by
 have n9:n≤1000000000:=by rw[hn];exact H.out.1
 have bf:=aq hn;have l2:af (zb (l.drop 0) 1000=b):=by show _=_;rw[←ay.out,akw];rfl
 clear ay hn;go_enter Tryz.func247,Tryz.ntmps247;go_wp2_with fail
 go_loopw [3,10] (fun JX i wr=>∃(j:Nat) (left:Int) (aK:aeo),aK=wr∧j≤n∧0≤left∧left≤1000∧af (zb (l.drop j) left=b)∧JX=I left∧i=I j∧af (ao w w aK)) (fun _ i _=>n -(intOf i).toNat)
 case atStart=>exact⟨0,1000,_,rfl,eE _,by decide,by decide,l2.out,rfl,rfl,Below.refl _ _⟩
 case round=>
 obtain⟨j,left,aK,rfl,cr,JY,q7,df,rfl,rfl,aO⟩:=hrel;by_cases b1:j<n
 ·have fL:j<l.length:=(by rw[←bf.out];exact b1);have i':(j:Int)<(n:Int):=(by omega);obtain⟨r,hr⟩:=ar (l[j]);obtain⟨fC,o,q,nz,rfl,p2,_,mq⟩:=(H.out.below aO.out).at fL hr;have bN:=aq mq;have rV:r.length≤1000000000:=mq.1;have ja:af ((if left<(r.length:Int) then false else r.all fZ&&zb (l.drop (j+1)) (left-r.length))=b):=(by show _=_;rw[←df.out,lT fL,hr];rfl);obtain⟨m,hm⟩:=ar r.length;have bM:=aq hm;rw[hm] at p2 ja rV;clear mq hr df hm;by_cases hle:left<(m:Int)
  ·have aP:af (false=b):=(by show _=_;rw[←ja.out,a8 hle]);go_wp2_with fail;go_ret;exact⟨ej aP.out,aO.out⟩
  ·have G3:af ((r.all fZ&&zb (l.drop (j+1)) (left-m))=b):=(by show _=_;rw[←ja.out,aR hle]);clear ja;have Ze:(m:Int)≤left:=(by omega);have hw:ae (left -(m:Int))=left -(m:Int):=cX _ (by omega);go_wp2_with fail;have ez:=aq (aO.out)
   go_loopw [24] (fun i gy=>∃(k:Nat) (cD:aeo),cD=gy∧k≤m∧af ((r.drop k).all fZ=r.all fZ)∧i=I k∧af (ao aK aK cD)) (fun i _=>m -(intOf i).toNat)
   case atStart=>exact⟨0,_,rfl,eE _,rfl,rfl,Below.refl _ _⟩
   case round=>
   obtain⟨k,cD,rfl,ax,dn,rfl,aX⟩:=hrel;by_cases iE:k<m
   ·have qz:k<r.length:=(by rw[bM.out];exact iE);have NW:(k:Int)<(m:Int):=(by omega);obtain⟨z,bn⟩:=ar (r[k]);obtain⟨nA,l3,rfl,s0,s1⟩:=(bN.out.below aX.out).at qz bn;obtain⟨gz,gA⟩:=z;have kM:af ((r.drop k).all fZ=(fZ (gz,gA)&&(r.drop (k+1)).all fZ)):=(by show _=_;rw[lT qz,bn];rfl);clear bn;obtain⟨f,hf⟩:=ar (fZ (gz,gA));have D':=aq hf;clear hf;go_wp2_with fail;refine (Ax (gz,gA) _).mono ?_;rintro e bV ⟨rfl,rfl⟩;have eX:af (ao aK aK ((cD.alloc (eZ (gz,gA))).alloc (eZ (gz,gA)))):=(aX.out.alloc aX.out.size _).alloc (by have:=aX.out.size;simp;omega) _;rw[D'.out];generalize (cD.alloc (eZ (gz,gA))).alloc (eZ (gz,gA))=bY at eX⊢;cases f with
    |true=>
     have iQ:af ((r.drop (k+1)).all fZ=r.all fZ):=(by show _=_;rw[←dn.out,kM.out,D'.out,NT]);go_wp2_with fail;go_round<;>first|exact⟨k+1,_,rfl,by omega,iQ.out,by go_num,eX.out⟩|(simp[intOf]<;>omega)
    |false=>
     have aP:af (false=b):=(by show _=_;rw[←G3.out,←dn.out,kM.out,D'.out,JW,JW]);go_wp2_with fail;go_ret;exact⟨ej aP.out,aO.out.trans (eX.out.mono aO.out.size)⟩
   ·have xz:k=m:=(by omega);have bd:af (zb (l.drop (j+1)) (left-m)=b):=(by show _=_;have av:=dn.out;rw[n2 (by have:=bM.out;omega)] at av;rw[←G3.out,←av];rfl);subst xz;go_wp2_with fail;go_round<;>first|exact⟨j+1,left-k,_,rfl,by omega,by omega,by omega,bd.out,by go_num,by go_num,aO.out.trans (aX.out.mono aO.out.size)⟩|(simp[intOf]<;>omega)
 ·have iR:j=n:=(by omega);have c9:af (true=b):=(by show _=_;rw[←df.out,n2 (by rw[←bf.out];omega)];rfl);subst iR;go_wp2_with fail;go_ret;exact⟨ej c9.out,aO.out⟩
variable{w:aeo}
theorem jQ{B:Nat}{a:aeo}(h:Below B a w)(n:Nat):Below B a (w.drewN n):=⟨h.os,h.tape,h.output,h.size,h.block⟩
theorem aU{w':aeo}{k:Nat}{o:Obj}(h:w.heap[k]?=some o)(ay:ao w w w'):w'.heap[k]?=some o:=(ay.block k (lt_of_heap h)).trans h
theorem kv{k:Nat}{p:bK}(h:w.heap[k]?=some (eZ p)):ak w k 0 (I p.1)∧ak w k 1 (I p.2):=by constructor<;>simp[World.cell?,h]
theorem cd(w:aeo)(o:Obj):(w.alloc o).heap[w.heap.size]?=some o:=ga w o
theorem pz(w:aeo)(o:Obj):(w.alloc o).heap.size=w.heap.size+1:=by simp
theorem a'(w:aeo)(o:Obj):ao w w (w.alloc o):=(Below.refl _ _).alloc (bx _) _
theorem zc{W:aeo}{dY cO fl:Obj}(h:((w.alloc dY).alloc cO).alloc fl=W):W.heap[w.heap.size]?=some dY∧W.heap[w.heap.size+1]?=some cO∧W.heap[w.heap.size+1+1]?=some fl∧ao w w W∧W.heap.size=w.heap.size+3:=by subst h;have a1:=pz w dY;have a6:=pz (w.alloc dY) cO;have ch:=pz ((w.alloc dY).alloc cO) fl;have av:=cd w dY;have az:=cd (w.alloc dY) cO;have aF:=cd ((w.alloc dY).alloc cO) fl;rw[a1] at az a6;rw[a6] at aF ch;have cE:=a' w dY;have bo:=a' (w.alloc dY) cO;have fk:=a' ((w.alloc dY).alloc cO) fl;exact⟨aU (aU av bo) fk,aU az fk,aF,(cE.trans (bo.mono (by omega))).trans (fk.mono (by omega)),ch⟩
theorem pA{a b:Int}(h:a=b):Ending.returned (I a)=ab (I b):=by rw[h]
def eY(x:Int):Prop:=-2305843009213693952≤x∧x≤2305843009213693952
theorem Zf(v lo hi:Int)(h:eY v∧eY lo∧eY hi)(g:Int)(ba:af (mN v lo hi=g))(w:aeo):
  Calls Tryz.prog 304 #[I v,I lo,I hi] w fun e w'=>e=ab (I g)∧w'=w:=by
 unfold eY at h;have av:ae (lo-v)=lo-v:=cX _ (by omega);have az:ae (v-hi)=v-hi:=cX _ (by omega);clear h;go_enter Tryz.func304,Tryz.ntmps304;go_wp2_with fail
 all_goals
  go_ret;refine⟨pA ?_,rfl⟩;have:=ba.out
  grind [mN]
def p3(x:Int):Prop:=-2147483647≤x∧x≤2147483647
theorem JZ{x:Int}(h:p3 x):0≤x *x∧x *x≤4611686014132420609:=by
 obtain⟨av,az⟩:=h;have aF:0≤(2147483647-x) *(2147483647+x):=gW (by omega) (by omega);have bk:(2147483647-x) *(2147483647+x)=4611686014132420609-x *x:=by grind
 have b9:0≤x *x:=by
  rcases Int.le_total 0 x with h|h
  ·exact gW h h
  ·have:=gW (a:=-x) (b:=-x) (by omega) (by omega)
   rwa [Int.neg_mul_neg] at this
 omega
abbrev h7(b:bO):Value:=.agg #[I b.aD,I b.aC,I b.aG,I b.aE]
abbrev cU(b:bO):Obj:=.cells #[I b.aD,I b.aC,I b.aG,I b.aE] 198
structure bO.In(b:bO):Prop where
 aD:eY b.aD
 aC:eY b.aC
 aG:eY b.aG
 aE:eY b.aE
theorem Zg(aD aC aG aE cw ct:Int)(ay:bO.In ⟨aD,aC,aG,aE⟩)(hp:eY cw∧eY ct)(k7 k8:Int)(hx:af (mN cw aD aG=k7))(hy:af (mN ct aC aE=k8))(Zh:p3 k7)(Sg:p3 k8)(d:Int)(hd:af (k7 *k7+k8 *k8=d))(w:aeo):
  Calls Tryz.prog 260 #[.agg #[I aD,I aC,I aG,I aE],.agg #[I cw,I ct]] w fun e w'=>e=ab (I d)∧ao w w w':=by
 have H1:=aq ay;have c1:=aq hp;have av:=JZ Zh;have az:=JZ Sg;have bV:ae (k7 *k7)=k7 *k7:=cX _ (by omega);have bY:ae (k8 *k8)=k8 *k8:=cX _ (by omega);have dp:ae (k7 *k7+k8 *k8)=d:=by rw[←hd.out];exact cX _ (by omega)
 have J0:=aq (Zf cw aD aG ⟨hp.1,ay.aD,ay.aG⟩ k7 hx);have Sh:=aq (Zf ct aC aE ⟨hp.2,ay.aC,ay.aE⟩ k8 hy);clear av az Zh Sg ay hp H1 c1;go_enter Tryz.func260,Tryz.ntmps260;go_upto_region 1 with fail
 go_quiet (first
  |(go_at_call 304;with_reducible exact rX (J0.out _))
  |(go_at_call 304;with_reducible exact rX (Sh.out _))
  |fail)
 go_wp2_with fail;go_ret;exact⟨rfl,jQ (((Below.refl _ _).alloc (bx _) _).alloc (by simp) _) _⟩
theorem Zi(v q:Int):mN v q q *mN v q q=(v-q) *(v-q)∧(p3 (v-q)→p3 (mN v q q)):=by
 unfold mN p3;by_cases av:v<q
 ·rw[a8 av];exact⟨by grind,by omega⟩
 ·rw[aR av];by_cases az:q<v
  ·rw[a8 az];exact⟨rfl,id⟩
  ·rw[aR az];obtain rfl:v=q:=(by omega);simp
theorem Zj(p q:bK)(hp:eY p.1∧eY p.2)(aH:eY q.1∧eY q.2)(f1:p3 (p.1-q.1))(f2:p3 (p.2-q.2))(d:Int)(hd:af (qs p q=d))(w:aeo):
  Calls Tryz.prog 227 #[l1 p,l1 q] w fun e w'=>e=ab (I d)∧ao w w w':=by
 obtain⟨cw,ct⟩:=p;obtain⟨en,eo⟩:=q;obtain⟨k7,hx⟩:=ar (mN cw en en);obtain⟨k8,hy⟩:=ar (mN ct eo eo);have bU:=Zi cw en;have a7:=Zi ct eo;rw[hx] at bU;rw[hy] at a7;have di:af (k7 *k7+k8 *k8=d):=by show _=_;rw[bU.1,a7.1,←hd.out];rfl
 have G:=aq (Zg en eo en eo cw ct ⟨aH.1,aH.2,aH.1,aH.2⟩ hp k7 k8 hx hy (bU.2 f1) (a7.2 f2) d di);clear bU a7 f1 f2 hp aH hx hy di hd;go_enter Tryz.func227,Tryz.ntmps227;go_wp2_with fail;with_reducible refine (G.out _).mono ?_
 rintro e w' ⟨rfl,ay⟩;have aO:af (ao w w w'):=(((Below.refl _ _).alloc (bx _) _).alloc (by simp) _).trans (ay.mono (by simp<;>omega));clear ay;go_wp2_with fail;go_ret;exact⟨rfl,aO.out⟩
theorem aky(c a e:bK)(hc:eY c.1∧eY c.2)(ha:eY a.1∧eY a.2)(he:eY e.1∧eY e.2)(f1:p3 (a.1-c.1))(f2:p3 (a.2-c.2))(f3:p3 (e.1-c.1))(f4:p3 (e.2-c.2))(b:Bool)(ay:af (JD c a e=b))(w:aeo):
  Calls Tryz.prog 187 #[l1 c,l1 a,l1 e] w fun r w'=>r=ab (U b)∧ao w w w':=by
 obtain⟨d1,hQ⟩:=ar (qs a c);obtain⟨d2,gL⟩:=ar (qs e c);have J0:=aq (Zj a c ha hc f1 f2 d1 hQ);have Sh:=aq (Zj e c he hc f3 f4 d2 gL);have aO:af ((decide (d1≠0)&&decide (d1=d2))=b):=by show _=_;rw[←ay.out];unfold JD;rw[hQ,gL]
 obtain⟨cx,bw⟩:=c;obtain⟨aW,aY⟩:=a;obtain⟨ex,bI⟩:=e;clear hc ha he f1 f2 f3 f4 ay hQ gL;go_enter Tryz.func187,Tryz.ntmps187;go_upto_region 1 with fail;obtain⟨W,br⟩:=ar (((w.alloc (eZ (cx,bw))).alloc (eZ (aW,aY))).alloc (eZ (ex,bI)));obtain⟨av,az,aF,Ea,gK⟩:=zc br;have bm:=aq aF;have bz:=aq av;have Zk:=aq Ea;obtain⟨aL,aI⟩:=kv av;obtain⟨bE,a2⟩:=kv az;simp only[eZ] at br;rw[br];clear av az aF Ea br gK;go_wp2_with fail;with_reducible refine (J0.out _).mono ?_
 rintro r bV ⟨rfl,er⟩;have c6:af (ao w w bV):=Zk.out.trans (er.mono Zk.out.size);have a1:=kv (aU bm.out er);have a6:=kv (aU bz.out er);obtain⟨e8,dN⟩:=a1;obtain⟨bW,cj⟩:=a6;clear aL aI bE a2 er;by_cases aT:d1=0
 ·have aP:af (false=b):=(by show _=_;rw[←aO.out,eT (by simp[aT])];rfl);have akz:(d1 !=0)=false:=(by rw[aT];rfl);go_wp2_with fail;go_ret;exact⟨ej aP.out,c6.out⟩
 ·have akz:(d1 !=0)=true:=(by simp[aT]);go_wp2_with fail;with_reducible refine (Sh.out _).mono ?_
  rintro r bY ⟨rfl,dA⟩;have cP:af (ao w w bY):=c6.out.trans (dA.mono c6.out.size);clear dA;go_wp2_with fail;go_ret;refine⟨ej ?_,cP.out⟩;rw[←aO.out,e' aT,NT]
  grind
end c4
