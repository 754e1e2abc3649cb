/- Lemmas. -/
import Derived.LaidEql
import Derived.WideKeyRuns
import Derived.Test.YtfldplmgkeiimaaGreatDoorR11
import Derived.WalkSmall
set_option linter.all false
namespace Go.Proofs.YtfldplmgkeiimaaGreatDoor
abbrev RY:=@List.ext_getElem
abbrev RZ:=@List.cons.injEq
abbrev F':=@Proofs.Tryz.underlying190
abbrev vv:=@Proofs.Tryz.underlying3
abbrev Nz:=@Proofs.Tryz.underlying292
abbrev zV:=@Sem.run_bind
abbrev BI:=@List.findIdx?_cons
abbrev Yq:=@List.findIdx?_eq_none_iff
abbrev NA:=@Proofs.Tryz.underlying294
abbrev NB:=@MapKept.run_getObj_map
abbrev Ga:=@if_true
abbrev Yr:=@List.mem_or_eq_of_mem_set
abbrev yN:=@Array.getElem?_setIfInBounds
abbrev NC:=@MapKept.run_setObj_map
abbrev yO:=@List.map_nil
abbrev xb:=@List.getElem?_map
abbrev vw:=@Array.getElem?_toList
abbrev ND:=@Nat.add_sub_cancel_left
abbrev R0:=@List.set_append_right
namespace dd
open Go.RowKit ef
variable{S:afp}{w w0 w':aeo}
theorem h4.uniq{xc:afp}{p:Ja}{l zW:List b3}(h:h4 S w p l)(fD:h4 xc w p zW)(aA:l.length=zW.length):l=zW:=by apply RY aA;intro i av az;obtain⟨b,o,cs,e,_,aK,hc⟩:=h.2 (by omega);obtain⟨bc,nD,kv,k8,_,ua,qe⟩:=fD.2 (by omega);rw[e] at k8;injection k8 with k8;injection k8 with a7 bf;subst a7 bf;rw[aK] at ua;injection ua with ua;injection ua with ua _;subst ua;obtain⟨bA,a2⟩:=hc i av;obtain⟨cS,bq⟩:=qe i az;rw[bA] at cS;rw[a2] at bq;injection cS with cS;injection cS with _ cS;injection bq with bq;injection bq with _ bq;exact Prod.ext cS bq
theorem iB.uniq{S xc:afp}{w:aeo}{p:Ja}{l zW:List (List b3)}(h:iB S w p l)(fD:iB xc w p zW)(aA:l.length=zW.length):l=zW:=by apply RY aA;intro i av az;obtain⟨b,o,cs,e,_,aK,hc⟩:=h.2 (by omega);obtain⟨bc,nD,kv,k8,_,ua,qe⟩:=fD.2 (by omega);rw[e] at k8;injection k8 with k8;injection k8 with a7 bf;subst a7 bf;rw[aK] at ua;injection ua with ua;injection ua with ua _;subst ua;obtain⟨q,c,bA,_,a2⟩:=hc i av;obtain⟨jD,c',cS,_,bq⟩:=qe i az;rw[bA] at cS;injection cS with cS;injection cS with a7 bf _;subst a7;exact a2.uniq bq bf
theorem ds.uniq{S xc:afp}{w:aeo}:∀{s s':bk} {xs:aev},ds S w s xs→ds xc w s' xs→s.len=s'.len→s=s'
 |.nil,.nil,_,_,_,_=>rfl
 |.nil,.cons _ _ _ _,_,_,_,aA=>by simp[bk.len] at aA
 |.cons _ _ _ _,.nil,_,_,_,aA=>by simp[bk.len] at aA
 |.cons a b s r,.cons k3 bc s' fK,xs,h,fD,aA=>by
  obtain⟨⟨pl,cl,pp,cp,av,az,aC,bt,cr,c4⟩,ez⟩:=h;obtain⟨⟨avW,avX,avY,avZ,R2,av0,rE,aiD,av1,aiE⟩,aiF⟩:=fD;rw[av] at R2;obtain⟨k,⟨a1,aZ⟩,⟨a8,bh⟩,⟨cx,bu⟩,ju,l⟩:=b;obtain⟨p3,⟨av2,av3⟩,⟨av4,av5⟩,⟨Ys,av6⟩,av7,zW⟩:=bc;simp only[RZ,Value.bool.injEq,Value.int.injEq,true_and,Value.slice.injEq,and_true] at R2;obtain⟨ek,a7,bf,cM,hO,nN,jW,iO,iP,⟨nj,sF,_⟩,R3,Yt,_⟩:=R2;subst ek a7 bf cM hO nN jW iO iP nj R3;have mg:l=zW:=bt.uniq aiD sF;subst mg
  have hs:s=s':=by
   rcases Fl s.len with aS|aS
   ·cases s with
    |nil=>
     cases s' with
     |nil=>rfl
     |cons _ _ _ _=>simp[bk.len] at Yt
    |cons _ _ _ _=>simp[bk.len] at aS
   ·obtain⟨bO,dX,R4,b1,_,DE,Gb⟩:=c4 aS;obtain⟨ba,c2,xd,cw,_,o5,vk⟩:=aiE (by omega);rw[b1] at cw;injection cw with cw;injection cw with f1 f2;subst f1 f2;rw[DE] at o5;injection o5 with o5;injection o5 with o5 _;subst o5;exact ds.uniq Gb vk Yt
  subst hs;have hr:r=fK:=ds.uniq ez aiF (by simp only[bk.len] at aA;omega);rw[hr]
theorem ij.uniq{S xc:afp}{w:aeo}{p:Ja}{s s':bk}(h:ij S w p s)(fD:ij xc w p s')(aA:s.len=s'.len):s=s':=by
 rcases Fl s.len with aS|aS
 ·cases s with
  |nil=>
   cases s' with
   |nil=>rfl
   |cons _ _ _ _=>simp[bk.len] at aA
  |cons _ _ _ _=>simp[bk.len] at aS
 ·obtain⟨bO,dX,R4,b1,_,DE,Gb⟩:=h.2 aS;obtain⟨ba,c2,xd,cw,_,o5,vk⟩:=fD.2 (by omega);rw[b1] at cw;injection cw with cw;injection cw with f1 f2;subst f1 f2;rw[DE] at o5;injection o5 with o5;injection o5 with o5 _;subst o5;exact ds.uniq Gb vk aA
abbrev xe:TypeId:=292
abbrev NF:TypeId:=294
abbrev iD:=Nat×Nat×Nat
abbrev lr(k:iD):Value:=.agg #[ah k.1 k.2.1,I (k.2.2:Int)]
theorem aiG(k j:iD)(w:aeo){ca aiH:ajv}{aiI aiJ:aai}(ha:w.heap[k.1]?=some (.cells ca aiI (0,0)))(ax:w.heap[j.1]?=some (.cells aiH aiJ (0,0))):(Op.equal xe (lr k) (lr j)).run Tryz.prog w=.ok (decide (k=j)) w:=by
 obtain⟨a,b,c⟩:=k;obtain⟨k3,bc,c'⟩:=j;simp only at ha ax;have hs:Tryz.prog.stoodInHeld xe=false:=by kernel_rfl
 have F1:(Tryz.prog.info? eP).map (fun i=>i.size)=some 11:=by kernel_rfl
 obtain⟨i,hi,iF⟩:∃i,Tryz.prog.info? eP=some i∧i.size=11:=by
  cases h:Tryz.prog.info? eP with
  |none=>rw[h] at F1;cases F1
  |some i=>rw[h] at F1;exact⟨i,rfl,by simpa using F1⟩
 have key:∀(D d:Nat) (r:Bool),D=d+1+1→(sameAddr (aj a b) (aj k3 bc)).run Tryz.prog w=.ok r w→(Op.equalIn D xe (lr (a,b,c)) (lr (k3,bc,c'))).run Tryz.prog w=.ok (r&&decide (c=c')) w:=by
  intro D d r b2 hr;subst b2;have aiK:(Op.equalIn (d+1) 190 (ah a b) (ah k3 bc)).run Tryz.prog w=.ok r w:=(by rw[Op.equalIn];simp[jC F',sizeOf,typeInfo,hi,iF,hr]);have ou:(Op.equalIn (d+1) 3 (I (c:Int)) (I (c':Int))).run Tryz.prog w=.ok (decide (c=c')) w:=(by rw[Op.equalIn];simp[jC vv];rw[yc,uR,jR];omega);have Jl:∀(x:Addr) (y:ada),(part 190 #[.pointer (some x),y] 0).run Tryz.prog w=.ok (.pointer (some x)) w:=(fun x y=>by simp[part,jC F']);have b3:∀(x:ada) (y:Int),(part 3 #[x,I y] 1).run Tryz.prog w=.ok (I y) w:=(fun x y=>by simp[part,jC vv]);rw[Op.equalIn];simp only[jC Nz,zV,uZ];simp[hs];simp only[Jl,b3,aiK,ou,uZ];cases r
  ·simp[Result.andThen]
  ·by_cases hc:c=c'<;>simp[hc,Result.andThen]
 by_cases hp:(⟨a,b,none⟩:Addr)=⟨k3,bc,none⟩
 ·have h:=key 10000 9998 true (by decide) (by rw[←hp];exact run_sameAddr_same (P:=Tryz.prog) w _);have av:a=k3:=fp Addr.block hp;have az:b=bc:=fp Addr.off hp;subst av az;simp only[Op.equal,Op.maxDepth];rw[h];simp
 ·have h:=key 10000 9998 false (by decide) (run_sameAddr_other (P:=Tryz.prog) w hp ha ax);simp only[Op.equal,Op.maxDepth];rw[h];have hn:¬((a,b,c):iD)=(k3,bc,c'):=fun e=>hp (by rw[show a=k3 from fp (fun x:iD=>x.1) e,show b=bc from fp (fun x:iD=>x.2.1) e]);rw[ey hn];rfl
def rF(w:aeo)(M:Nat)(L:List (iD×Int)):Prop:=∃es c,w.heap[M]?=some (.map es c)∧es.toList.map (fun e=>(e.key,e.val))=L.map (fun x=>(lr x.1,Value.int .i64 x.2))
def DF(w:aeo)(L:List (iD×Int)):Prop:=∀x∈L,∃cs,w.heap[x.1.1]?=some (.cells cs eP (0,0))
def kj(L:List (iD×Int))(k:iD):Option Int:=(L.find? fun x=>decide (k=x.1)).map Prod.snd
theorem R5(w:aeo)(k:iD){ca:ajv}(ha:w.heap[k.1]?=some (.cells ca eP (0,0))):∀(L:List (iD×Int)) (es:List MapEntry) (i:Nat),DF w L→es.map (fun e=>(e.key,e.val))=L.map (fun x=>(lr x.1,Value.int .i64 x.2))→
  (Instr.findAsking xe (lr k) es i).run Tryz.prog w=.ok ((L.findIdx? fun x=>decide (k=x.1)).map fun j=>(i+j,Value.int .i64 ((kj L k).getD 0))) w
 |[],es,i,_,he=>by have:es=[]:=(by simpa using he);subst this;simp[Instr.findAsking]
 |x::L,es,i,ax,he=>by
  cases es with
  |nil=>simp at he
  |cons e es=>
   simp only[yh,RZ,gh] at he;obtain⟨⟨av,az⟩,aC⟩:=he;obtain⟨cs,iw⟩:=ax x (by simp);have heq:=aiG k x.1 w ha iw;rw[←av] at heq;by_cases ay:k=x.1
   ·rw[eL ay] at heq;subst ay;simp[Instr.findAsking,heq,kj,az,BI]
   ·rw[ey ay] at heq;have cO:=R5 w k ha L es (i+1) (fun y hy=>ax y (by simp[hy])) aC;simp[Instr.findAsking,heq,ay,cO,kj,BI,wo,L9 1];rfl
theorem R6(k:iD)(w:aeo):(Instr.checkKey false 10000 xe (lr k)).run Tryz.prog w=.ok () w∧(Instr.checkKey true 10000 xe (lr k)).run Tryz.prog w=.ok () w:=by
 have key:∀(D d:Nat) (em:Bool),D=d+1+1→(Instr.checkKey em D xe (lr k)).run Tryz.prog w=.ok () w:=by intro D d em b2;subst b2;have Jl:∀(x:Addr) (y:ada),(part 190 #[.pointer (some x),y] 0).run Tryz.prog w=.ok (.pointer (some x)) w:=(fun x y=>by simp[part,jC F']);have b3:∀(x:ada) (y:Int),(part 3 #[x,I y] 1).run Tryz.prog w=.ok (I y) w:=(fun x y=>by simp[part,jC vv]);have R7:∀x:Addr,(Instr.checkKey em (d+1) 190 (.pointer (some x))).run Tryz.prog w=.ok () w:=(fun x=>by simp[Instr.checkKey,jC F']);have R8:∀x:Int,(Instr.checkKey em (d+1) 3 (I x)).run Tryz.prog w=.ok () w:=(fun x=>by simp[Instr.checkKey,jC vv]);rw[Instr.checkKey];simp only[jC Nz,zV,uZ];simp[Jl,b3,R7,R8]
 exact⟨key 10000 9998 false (by decide),key 10000 9998 true (by decide)⟩
theorem NG(k:iD)(es:List MapEntry)(w:aeo):(Instr.findKey xe (lr k) es).run Tryz.prog w=(Instr.findAsking xe (lr k) es).run Tryz.prog w:=
 run_findKey_eq w (by rw[Nz]) _ _
variable{M B bD n c:Nat}{L:List (iD×Int)}
theorem aiL(h:rF w M L)(ax:DF w L)(k:iD){ca:ajv}(ha:w.heap[k.1]?=some (.cells ca eP (0,0))):
  (Instr.lookup NF (.map (some M)) (lr k) true).run Tryz.prog w=.ok (.tuple #[I ((kj L k).getD 0),U (kj L k).isSome]) w:=by
 obtain⟨es,c,ff,he⟩:=h;have hf:=R5 w k ha L es.toList 0 ax he;have BJ:∀b,(Instr.checkKey b 10000 xe (lr k)).run Tryz.prog w=.ok () w:=fun b=>by cases b;exact (R6 k w).1;exact (R6 k w).2
 have cz:Tryz.prog.info? 3≠none:=by intro h;have:(Tryz.prog.info? 3).isSome=true:=(by kernel_rfl);rw[h] at this;cases this
 cases hi:L.findIdx? (fun x=>decide (k=x.1)) with
 |none=>
  have hn:kj L k=none:=(by unfold kj;rw[Yq] at hi;rw[List.find?_eq_none.2 (fun x hx=>by simpa using hi x hx)];rfl);rw[hi] at hf;simp[Instr.lookup,jC NA,NB ff,BJ,NG,hf,hn,Result.andThen]
 |some j=>
  have hn:(kj L k).isSome=true:=(by unfold kj;rw[Option.isSome_map,List.find?_isSome];obtain⟨av,az,_⟩:=List.findIdx?_eq_some_iff_getElem.1 hi;exact⟨L[j],kT _,az⟩);rw[hi] at hf;simp[Instr.lookup,jC NA,NB ff,BJ,NG,hf,hn,Result.andThen]
def nP(L:List (iD×Int))(k:iD)(v:Int):List (iD×Int):=match L.findIdx? (fun x=>decide (k=x.1)) with
 |some j=>L.set j (k,v)
 |none=>L++[(k,v)]
theorem Gc(k j:iD)(v:Int):∀L:List (iD×Int),kj (nP L k v) j=if j=k then some v else kj L j
 |[]=>by by_cases h:j=k<;>simp[nP,kj,h]
 |x::L=>by
  have cO:=Gc k j v L;by_cases hx:k=x.1
  ·subst hx;simp only[nP,BI,decide_true,List.set_cons_zero,Ga];by_cases h:j=x.1
   ·simp[kj,h]
   ·simp[kj,h]
  ·have e:nP (x::L) k v=x::nP L k v:=(by unfold nP;rw[BI,ey hx];cases L.findIdx? (fun x=>decide (k=x.1))<;>simp);rw[e];by_cases h:j=x.1
   ·have az:¬j=k:=fun e=>hx (e.symm.trans h);simp[kj,h,List.find?_cons,gu hx]
   ·have a7:kj (x::nP L k v) j=kj (nP L k v) j:=(by simp[kj,h]);have bf:kj (x::L) j=kj L j:=(by simp[kj,h]);rw[a7,bf,cO]
theorem Yu{k:iD}{v:Int}{x:iD×Int}(h:x∈nP L k v):x=(k,v)∨x∈L:=by
 unfold nP at h;split at h
 ·exact (Yr h).symm
 ·rw[List.mem_append,List.mem_singleton] at h;exact h.symm
theorem aiM(k:iD)(w:aeo):(Instr.keyThatStays (lr k) (lr k)).run Tryz.prog w=.ok (lr k) w:=by
 have key:∀D d:Nat,D=d+1→Instr.sameBits D (lr k) (lr k)=true:=by intro D d h;subst h;simp[Instr.sameBits]
 simp[Instr.keyThatStays,key 10000 9999 (by decide)]
theorem R9(h:rF w M L)(ax:DF w L)(k:iD){ca:ajv}(ha:w.heap[k.1]?=some (.cells ca eP (0,0)))(v:Int):
  ∃cc,(Instr.mapUpdate NF (.map (some M)) (lr k) (I v)).run Tryz.prog w=.ok () cc∧rF cc M (nP L k v)∧aP (fun b=>b≠M) w cc∧cc.heap.size=w.heap.size:=by
 obtain⟨es,c,ff,he⟩:=h;have hf:=R5 w k ha L es.toList 0 ax he;have BJ:=(R6 k w).1;have zX:∀p4 c',aP (fun b=>b≠M) w {w with heap:=w.heap.setIfInBounds M (.map p4 c')}:=fun p4 c'=>⟨rfl,rfl,rfl,by simp,fun b ax _=>by show (w.heap.setIfInBounds M _)[b]?=_;rw[yN,aW (gu ax)]⟩;have bR:=lt_of_heap ff;cases hi:L.findIdx? (fun x=>decide (k=x.1)) with
 |none=>
  rw[hi] at hf
  refine ⟨{w with heap:=w.heap.setIfInBounds M (.map (es.push {key:=lr k,val:= I v,born:=c}) (c+1))},?_,⟨_,_,by
   show (w.heap.setIfInBounds M _)[M]?=_;rw[yN,bb rfl,bb bR],?_⟩,zX _ _,by simp⟩
  ·simp[Instr.mapUpdate,jC NA,NB ff,BJ,NG,hf,NC _ ff,Result.andThen]
  ·unfold nP;rw[hi];simp only[Array.toList_push,qI,he,yh,yO]
 |some j=>
  rw[hi] at hf;obtain⟨av,az,_⟩:=List.findIdx?_eq_some_iff_getElem.1 hi;have lX:j<es.toList.length:=(by have:=fp List.length he;simp only[gO] at this;omega);have H5:(es[j]?).map (·.key)=some (lr k):=by have aC:=fp (fun l=>l[j]?) he;simp only[xb,mx lX,mx av,yH,n7,gh] at aC;have bt:es[j]?=some es.toList[j]:=(by rw[←vw,mx lX]);rw[bt,yH,aC.1];have:k=L[j].1:=(by simpa using az);rw[this]
  refine ⟨{w with heap:=w.heap.setIfInBounds M (.map (es.modify j fun e=>{e with key:=lr k,val:= I v}) c)},?_,⟨_,_,by
   show (w.heap.setIfInBounds M _)[M]?=_;rw[yN,bb rfl,bb bR],?_⟩,zX _ _,by simp⟩
  ·simp[Instr.mapUpdate,jC NA,NB ff,BJ,NG,hf,H5,aiM,NC _ ff,Result.andThen]
  ·unfold nP;rw[hi];apply FJ;intro n;have aC:=fp (fun l=>l[n]?) he;simp only[xb,Array.toList_modify,List.getElem?_modify,List.getElem?_set] at aC⊢;by_cases hn:j=n
   ·subst hn;rw[mx lX];simp[av]
   ·simp only[hn,if_false] at aC⊢;simpa using aC
structure Fr where
 k:Nat
 o:Nat
 c:Nat
 pre:bk
 rest:bk
def Fr.all(f:Fr):bk:=f.pre.append f.rest
def Fr.key(f:Fr):iD:=(f.k,f.o,f.all.len)
def DG(f:Fr):List Value:=[ad (some (aj f.k f.o)) f.all.len f.c,I (f.pre.len:Int),I (f.pre.count:Int)]
def pC:List Fr→List Value
 |[]=>[]
 |f::ts=>pC ts++DG f
theorem BK:∀ts:List Fr,(pC ts).length=ts.length *3
 |[]=>rfl
 |f::ts=>by simp only[pC,iv,BK ts,fY,DG,tj];omega
def ub(root:bk):List Fr→Prop
 |[]=>True
 |[f]=>f.all=root
 |f::g::ts=>(∃a b r,g.rest=.cons a b f.all r)∧ub root (g::ts)
theorem bk.count_cons(a:Bool)(b:dm)(s r:bk):(bk.cons a b s r).count=s.count+r.count+1:=rfl
theorem ub.count{root:bk}:∀{f:Fr} {ts:List Fr},ub root (f::ts)→∀g∈f::ts,f.all.count≤g.all.count
 |f,[],_,g,aF=>by obtain rfl:g=f:=(by simpa using aF);exact bx _
 |f,h::ts,hc,g,aF=>by
  rcases List.mem_cons.1 aF with rfl|aF
  ·exact bx _
  ·obtain⟨⟨a,b,r,e⟩,az⟩:=hc;have aC:=ub.count az g aF;have bt:f.all.count<h.all.count:=(by unfold Fr.all at e⊢;rw[bk.count_append h.pre,e,bk.count_cons];show (f.pre.append f.rest).count<_;omega);omega
theorem ub.Yv{root:bk}:∀{f:Fr} {ts:List Fr},ub root (f::ts)→f.all.count≤root.count
 |f,[],h=>by rw[show f.all=root from h];exact bx _
 |f,g::ts,h=>by have av:=ub.count h g (by simp);exact dx av (ub.Yv h.2)
def qK:bk→Nat
 |.nil=>0
 |.cons _ _ s r=>qK s+qK r+3
def vx:bk→Nat
 |.nil=>0
 |.cons _ _ _ r=>qK r
def xf:List Fr→Nat
 |[]=>0
 |f::ts=>vx f.rest+2+xf ts
def iE(hd:Bool):List Fr→Nat
 |[]=>0
 |f::ts=>(if hd=true then vx f.rest+2 else qK f.rest+1)+xf ts
structure uc(S:afp)(w0:aeo)(L:List (iD×Int))(ts:List Fr):Prop where
 op:∀k v,kj L k=some v→v= -1→∃f∈ts,f.key=k
 cn:∀k v,kj L k=some v→v≠-1→∃s,ij S w0 (some (aj k.1 k.2.1)) s∧s.len=k.2.2∧v=(s.count:Int)
 fN:DF w0 L
theorem ij.block{k o:Nat}{s:bk}(h:ij S w (some (aj k o)) s)(aA:0<s.len):∃cs,w.heap[k]?=some (.cells cs eP (0,0))∧S k:=by obtain⟨p3,nD,cs,e,hS,aK,_⟩:=h.2 aA;injection e with e;injection e with a7 _;subst a7;exact⟨cs,aK,hS⟩
variable{f:Fr}{ts:List Fr}
theorem uc.found{root:bk}(h:uc S w0 L (f::ts))(Jm:ub root (f::ts))(i1:∀g∈f::ts,ij S w0 (some (aj g.k g.o)) g.all){k o:Nat}{sub:bk}(hs:ij S w0 (some (aj k o)) sub)(bR:sub.count<f.all.count){v:Int}(aY:kj L (k,o,sub.len)=some v):v=(sub.count:Int):=by
 by_cases av:v= -1
 ·exfalso;obtain⟨g,aF,ay⟩:=h.op _ _ aY av;have a7:g.k=k:=fp (fun x:iD=>x.1) ay;have bf:g.o=o:=fp (fun x:iD=>x.2.1) ay;have cM:g.all.len=sub.len:=fp (fun x:iD=>x.2.2) ay;have hp:=i1 g aF;rw[a7,bf] at hp;have hO:g.all=sub:=hp.uniq hs cM;have:=Jm.count g aF;rw[hO] at this;omega
 ·obtain⟨s,hp,aA,e⟩:=h.cn _ _ aY av;rw[e,ij.uniq (s:=s) (s':=sub) hp hs aA]
theorem uc.push(h:uc S w0 L ts)(hp:ij S w0 (some (aj f.k f.o)) f.all)(aA:0<f.all.len):uc S w0 (nP L f.key (-1)) (f::ts) where
 op:=fun k v aY e=>by
  rw[Gc] at aY;by_cases ay:k=f.key
  ·exact⟨f,by simp,ay.symm⟩
  ·rw[aW ay] at aY;obtain⟨g,aF,bf⟩:=h.op k v aY e;exact⟨g,by simp[aF],bf⟩
 cn:=fun k v aY e=>by
  rw[Gc] at aY;by_cases ay:k=f.key
  ·rw[bb ay] at aY;injection aY with aY;exact absurd aY.symm e
  ·rw[aW ay] at aY;exact h.cn k v aY e
 fN:=fun x hx=>by
  rcases Yu hx with rfl|hx
  ·obtain⟨cs,aK,_⟩:=hp.block aA;exact⟨cs,aK⟩
  ·exact h.fN x hx
theorem uc.pop(h:uc S w0 L (f::ts))(hp:ij S w0 (some (aj f.k f.o)) f.all)(aA:0<f.all.len):uc S w0 (nP L f.key (f.all.count:Int)) ts where
 op:=fun k v aY e=>by
  rw[Gc] at aY;by_cases ay:k=f.key
  ·rw[bb ay] at aY;injection aY with aY;omega
  ·rw[aW ay] at aY;obtain⟨g,aF,bf⟩:=h.op k v aY e;rcases List.mem_cons.1 aF with rfl|aF
   ·exact absurd bf.symm ay
   ·exact⟨g,aF,bf⟩
 cn:=fun k v aY e=>by
  rw[Gc] at aY;by_cases ay:k=f.key
  ·rw[bb ay] at aY;injection aY with aY;subst ay;exact⟨f.all,hp,rfl,aY.symm⟩
  ·rw[aW ay] at aY;exact h.cn k v aY e
 fN:=fun x hx=>by
  rcases Yu hx with rfl|hx
  ·obtain⟨cs,aK,_⟩:=hp.block aA;exact⟨cs,aK⟩
  ·exact h.fN x hx
theorem uc.NH{f':Fr}(h:uc S w0 L (f::ts))(ay:f'.key=f.key):uc S w0 L (f'::ts) where
 op:=fun k v aY e=>by
  obtain⟨g,aF,bf⟩:=h.op k v aY e;rcases List.mem_cons.1 aF with rfl|aF
  ·exact⟨f',by simp,ay.trans bf⟩
  ·exact⟨g,by simp[aF],bf⟩
 cn:=h.cn
 fN:=h.fN
variable{v:ada}{e:aai}
theorem Sa{xs:aev}(h:w.ownsRow B e bD v n xs)(ay:aP S w w')(hS:∀k,v.ownBlock=some k→S k):w'.ownsRow B e bD v n xs:=by
 refine⟨h.1,?_⟩;rcases h.2 with av|⟨g,cap,cur,rfl,bK,aK,az⟩
 ·exact .inl av
 ·exact .inr ⟨g,cap,cur,rfl,bK,ay.get (hS g rfl) aK,az⟩
theorem aiN{i j:Nat}{a:ajv}{s:aai}{f:Nat×Nat}{es:Array MapEntry}(av:w.heap[i]?=some (.cells a s f))(az:w.heap[j]?=some (.map es c)):i≠j:=by rintro rfl;rw[av] at az;cases az
theorem vy{g m:Nat}{xs:aev}(h:w.ownsRow B e bD (ag g 0 n c) m xs):B≤g∧∃cur,w.heap[g]?=some (.cells cur e (0,0)):=by
 rcases h.2 with ⟨aY,_⟩|⟨k,cap,cur,ay,bK,aK,_⟩
 ·cases aY
 ·injection ay with ej _ fs;injection ej with ej;injection ej with ej;subst ej;exact⟨bK,cur,aK⟩
theorem aiO{xs:aev}(h:w.ownsRow B e bD v n xs){b:Nat}{es:Array MapEntry}(ax:w.heap[b]?=some (.map es c)):v.ownBlock≠some b:=by
 rcases h.2 with ⟨rfl,_⟩|⟨g,cap,cur,rfl,_,aK,_⟩
 ·simp[Value.ownBlock]
 ·intro az;have:g=b:=(by simpa[Value.ownBlock] using az);subst this;rw[ax] at aK;cases aK
abbrev vz:TypeId:=296
def Yw(w0:aeo):List Fr→Prop
 |[]=>True
 |[_]=>True
 |f::g::ts=>w0.cell? ⟨g.k,g.o+g.pre.len *11+10,none⟩=some (ad (some (aj f.k f.o)) f.all.len f.c)∧Yw w0 (g::ts)
structure nQ(S:afp)(w0:aeo)(M:Nat)(root:bk)(ts:List Fr)(hd:Bool)(L:List (iD×Int))(sv:ada)(w:aeo):Prop where
 aX:ao w0 w0 w
 row:w.ownsRow w0.heap.size vz 3 sv ts.length (pC ts)
 map:rF w M L
 ob:uc S w0 L ts
 yP:ub root ts
 na:Yw w0 ts
 ps:∀g∈ts,ij S w0 (some (aj g.k g.o)) g.all∧0<g.all.len∧g.all.len≤1000000000
 NI:w0.heap.size≤M
 ay:hd=true→∃f us a b sub r p3 nD c',ts=f::us∧f.rest=.cons a b sub r∧0<sub.len∧ak w0 f.k (f.o+f.pre.len *11+10) (ad (some (aj p3 nD)) sub.len c')∧kj L (p3,nD,sub.len)≠none
theorem rF.keep(h:rF w M L)(ay:aP S w w')(hS:S M):rF w' M L:=by obtain⟨es,c,av,az⟩:=h;exact⟨es,c,ay.get hS av,az⟩
theorem rF.below(h:rF w M L)(ax:ao w w w'):rF w' M L:=h.keep (S:=fun _=>True) (.dW ax) trivial
theorem DF.below(h:DF w L)(ax:ao w w w'):DF w' L:=fun x hx=>by obtain⟨cs,aK⟩:=h x hx;exact⟨cs,aU aK ax⟩
theorem nQ.below{S:afp}{w0:aeo}{M:Nat}{root:bk}{ts:List Fr}{hd:Bool}{L:List (iD×Int)}{sv:ada}{w w':aeo}(h:nQ S w0 M root ts hd L sv w)(ax:ao w w w'):nQ S w0 M root ts hd L sv w':=
 {h with aX:=h.aX.trans (ax.mono h.aX.size),row:=gC h.row ax,map:=h.map.below ax}
theorem Sb{xs:aev}(h:rF w M L)(hr:w.ownsRow B e bD v n xs):v.ownBlock≠some M:=by obtain⟨es,c,aK,_⟩:=h;exact aiO hr aK
theorem Jn{g:Nat}{xs:aev}{z0 z1 z2:ada}(h:w.ownsRow B e 3 (ag g 0 (n+1) c) (n+1) (xs++[z0,z1,z2]))(hx:xs.length=n *3):
  ak w g (n *3) z0∧ak w g (n *3+1) z1∧ak w g (n *3+2) z2:=by
 have key:∀j,j<3→w.cell? ⟨g,n *3+j,none⟩=[z0,z1,z2][j]?:=by intro j cd;rw[h.cellAt (n *3+j) (by omega),A8 (by omega),hx,ND]
 exact⟨key 0 (by decide),key 1 (by decide),key 2 (by decide)⟩
theorem nQ.pop{S:afp}{w0:aeo}{M:Nat}{root:bk}{f g:Fr}{ts:List Fr}{hd:Bool}{L:List (iD×Int)}{sM cap n:Nat}{w cc:aeo}(h:nQ S w0 M root (f::g::ts) hd L (ag sM 0 (n+1) cap) w)(hn:(g::ts).length=n)(ay:aP (fun b=>b≠M) w cc)(hB:rF cc M (nP L f.key (f.all.count:Int))):
  nQ S w0 M root (g::ts) true (nP L f.key (f.all.count:Int)) (ag sM 0 n cap) cc:=by
 obtain⟨hp,aA,_⟩:=h.ps f (by simp);obtain⟨⟨a,b,r,e⟩,Jm⟩:=h.yP;obtain⟨Jo,ka⟩:=h.na;refine⟨h.aX.trans (ay.below _ h.aX.size fun k fs e=>by have:=h.NI;omega),?_,hB,h.ob.pop hp aA,Jm,ka,fun x hx=>h.ps x (by simp[hx]),h.NI,fun _=>⟨g,ts,a,b,f.all,r,f.k,f.o,f.c,rfl,e,aA,Jo,?_⟩⟩
 ·have av:cc.ownsRow w0.heap.size vz 3 (ag sM 0 (n+1) cap) (f::g::ts).length (pC (f::g::ts)):=Sa h.row ay fun k bf cM=>Sb h.map h.row (cM ▸ bf);rw[show (f::g::ts).length=n+1 by simp[←hn]] at av;have az:=ownsRow_pop (xs:=pC (g::ts)) (last:=DG f) (by rw[BK,hn]) av;rw[hn];exact az
 ·show kj _ f.key≠none;rw[Gc,bb rfl];exact fun h=>by cases h
theorem nQ.NH{S:afp}{w0:aeo}{M:Nat}{root:bk}{f:Fr}{ts:List Fr}{hd:Bool}{L:List (iD×Int)}{sM cap n:Nat}{w:aeo}(h:nQ S w0 M root (f::ts) hd L (ag sM 0 (n+1) cap) w)(hn:ts.length=n){a:Bool}{b:dm}{sub r:bk}(hr:f.rest=.cons a b sub r):
  nQ S w0 M root (⟨f.k,f.o,f.c,f.pre.append (.cons a b sub .nil),r⟩::ts) false L (ag sM 0 (n+1) cap) ((w.setCell (aj sM (n *3+2)) (I (f.pre.count+(sub.count+1):Nat))).setCell (aj sM (n *3+1)) (I (f.pre.len+1:Nat))):=by
 have ix:(⟨f.k,f.o,f.c,f.pre.append (.cons a b sub .nil),r⟩:Fr).all=f.all:=by unfold Fr.all;rw[hr];show (f.pre.append (.cons a b sub .nil)).append r=_;rw[bk.append_assoc];rfl
 have aS:=h.row;rw[show (f::ts).length=n+1 by simp[hn]] at aS;obtain⟨av,g1⟩:=aS.stored (n *3+2) (I ((f.pre.count+(sub.count+1):Nat):Int));obtain⟨az,g2⟩:=av.stored (n *3+1) (I ((f.pre.len+1:Nat):Int));have yQ:=(vy aS).1;obtain⟨_,cur,gJ⟩:=vy aS;have Sc:M≠sM:=by obtain⟨es,c,aK,_⟩:=h.map;exact (aiN gJ aK).symm
 have hK:aP (fun k=>k≠sM) w ((w.setCell (aj sM (n *3+2)) (I (f.pre.count+(sub.count+1):Nat))).setCell (aj sM (n *3+1)) (I (f.pre.len+1:Nat))):=(aP.set (a:=⟨sM,n *3+2,none⟩) (fun h=>h rfl) _).trans (aP.set (a:=⟨sM,n *3+1,none⟩) (fun h=>h rfl) _);refine⟨h.aX.trans (hK.below _ h.aX.size fun k ay=>by omega),?_,h.map.keep hK Sc,h.ob.NH (by unfold Fr.key;rw[ix]),?_,?_,fun x hx=>?_,h.NI,fun e=>by cases e⟩
 ·rw[show (⟨f.k,f.o,f.c,f.pre.append (.cons a b sub .nil),r⟩::ts:List Fr).length=n+1 by simp[hn]];have e:pC (⟨f.k,f.o,f.c,f.pre.append (.cons a b sub .nil),r⟩::ts)=((pC (f::ts)).set (n *3+2) (I ((f.pre.count+(sub.count+1):Nat):Int))).set (n *3+1) (I ((f.pre.len+1:Nat):Int)):=(by have aA:(pC ts).length=n *3:=(by rw[BK,hn]);simp only[pC,DG,ix];rw[R0 _ _ (by omega),R0 _ _ (by omega),aA,show n *3+2-n *3=2 by omega,show n *3+1-n *3=1 by omega];simp[bk.tB,bk.count_append,bk.len,bk.count]);rw[e];exact az
 ·cases ts with
  |nil=>exact ix.trans h.yP
  |cons g ts=>
   obtain⟨⟨k3,bc,fK,e⟩,Jm⟩:=h.yP;exact⟨⟨k3,bc,fK,by rw[ix];exact e⟩,Jm⟩
 ·cases ts with
  |nil=>trivial
  |cons g ts=>
   obtain⟨e,ka⟩:=h.na;exact⟨by rw[ix];exact e,ka⟩
 ·rcases List.mem_cons.1 hx with rfl|hx
  ·rw[ix];exact h.ps f (by simp)
  ·exact h.ps x (by simp[hx])
theorem nQ.push{S:afp}{w0:aeo}{M:Nat}{root:bk}{f f':Fr}{ts:List Fr}{hd:Bool}{L:List (iD×Int)}{sv sv':ada}{w w':aeo}(h:nQ S w0 M root (f::ts) hd L sv w){a:Bool}{b:dm}{r:bk}(hr:f.rest=.cons a b f'.all r)(Yx:f'.pre=.nil)(qm:ak w0 f.k (f.o+f.pre.len *11+10) (ad (some (aj f'.k f'.o)) f'.all.len f'.c))(hp:ij S w0 (some (aj f'.k f'.o)) f'.all)(aA:0<f'.all.len∧f'.all.len≤1000000000)(ax:ao w0 w0 w')(eD:w'.ownsRow w0.heap.size vz 3 sv' (f'::f::ts).length (pC (f'::f::ts)))(hB:rF w' M (nP L f'.key (-1))):
  nQ S w0 M root (f'::f::ts) false (nP L f'.key (-1)) sv' w':=
 ⟨ax,eD,hB,h.ob.push hp aA.1,⟨⟨a,b,r,hr⟩,h.yP⟩,⟨qm,h.na⟩,fun x hx=>by
  rcases List.mem_cons.1 hx with rfl|hx
  ·exact⟨hp,aA.1,aA.2⟩
  ·exact h.ps x hx,h.NI,fun e=>by cases e⟩
end dd
