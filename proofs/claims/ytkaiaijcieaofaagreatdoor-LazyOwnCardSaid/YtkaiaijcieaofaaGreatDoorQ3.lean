/- Lemmas. -/
import Derived.Test.YtkaiaijcieaofaaGreatDoorQ2
import Derived.LaidEql
import Derived.WideKeyRuns
import Derived.Deep.RegionHeld3
set_option linter.all false
set_option maxRecDepth 100000
set_option maxHeartbeats 6400000
namespace Go.Proofs.YtkaiaijcieaofaaGreatDoor
abbrev JI:=@List.cons.injEq
abbrev JJ:=@Value.slice.injEq
abbrev JK:=@and_true
abbrev k2:=@run_underlying
abbrev GH:=@Proofs.Tryz.underlying107
abbrev qz:=@Proofs.Tryz.underlying3
abbrev yN:=@Bool.eq_iff_iff
abbrev xl:=@beq_iff_eq
abbrev NQ:=@Proofs.Tryz.underlying180
abbrev GI:=@Sem.run_bind
abbrev fg:=@Prod.mk.injEq
abbrev BR:=@List.findIdx?_cons
abbrev vZ:=@Nat.add_assoc
abbrev JL:=@Nat.add_comm
abbrev Yo:=@List.findIdx?_eq_none_iff
abbrev NR:=@Proofs.Tryz.underlying182
abbrev NS:=@MapKept.run_getObj_map
abbrev k3:=@List.getElem_mem
abbrev D6:=@if_true
abbrev eN:=@Ne.symm
abbrev Yp:=@List.mem_or_eq_of_mem_set
abbrev R7:=@List.mem_append
abbrev xm:=@Array.getElem?_setIfInBounds
abbrev NT:=@MapKept.run_setObj_map
abbrev v7:=@List.map_append
abbrev nF:=@List.map_nil
abbrev jV:=@List.length_map
abbrev D7:=@List.getElem?_map
abbrev iW:=@List.getElem?_eq_getElem
abbrev An:=@Option.map_some
abbrev yO:=@Array.getElem?_toList
abbrev JM:=@if_false
abbrev GJ:=@Proofs.Tryz.func186
abbrev GK:=@Proofs.Tryz.ntmps186
abbrev GL:=@Proofs.Tryz.results186
namespace c1
open Go.RowKit ef
variable{w v x w0:aeo}
theorem gV.uniq{S xn:afp}{p:Ja}{l oT:List b7}(h:gV S w p l)(eQ:gV xn w p oT)(az:l.length=oT.length):l=oT:=by apply List.ext_getElem az;intro i au ax;obtain⟨b,o,cs,e,_,aE,aB⟩:=h.2 (by omega);obtain⟨b1,v8,hP,xo,_,uG,rb⟩:=eQ.2 (by omega);rw[e] at xo;injection xo with xo;injection xo with aY a6;subst aY a6;rw[aE] at uG;injection uG with uG;injection uG with uG _;subst uG;obtain⟨ew,a2⟩:=aB i au;obtain⟨cw,bl⟩:=rb i ax;rw[ew] at cw;rw[a2] at bl;injection cw with cw;injection cw with _ cw;injection bl with bl;injection bl with _ bl;exact Prod.ext cw bl
theorem iS.uniq{S xn:afp}{w:aeo}{p:Ja}{l oT:List (List b7)}(h:iS S w p l)(eQ:iS xn w p oT)(az:l.length=oT.length):l=oT:=by apply List.ext_getElem az;intro i au ax;obtain⟨b,o,cs,e,_,aE,aB⟩:=h.2 (by omega);obtain⟨b1,v8,hP,xo,_,uG,rb⟩:=eQ.2 (by omega);rw[e] at xo;injection xo with xo;injection xo with aY a6;subst aY a6;rw[aE] at uG;injection uG with uG;injection uG with uG _;subst uG;obtain⟨q,c,ew,_,a2⟩:=aB i au;obtain⟨D8,c',cw,_,bl⟩:=rb i ax;rw[ew] at cw;injection cw with cw;injection cw with aY a6 _;subst aY;exact a2.uniq bl a6
theorem da.uniq{S xn:afp}{w:aeo}:∀{s s':bf} {xs:aev},da S w s xs→da xn w s' xs→s.len=s'.len→s=s'
 |.nil,.nil,_,_,_,_=>rfl
 |.nil,.cons _ _ _ _,_,_,_,az=>by simp[bf.len] at az
 |.cons _ _ _ _,.nil,_,_,_,az=>by simp[bf.len] at az
 |.cons a b s r,.cons k1 b1 s' j',xs,h,eQ,az=>by
  obtain⟨⟨pl,cl,pp,cp,au,ax,aA,bb,bj,b8⟩,cY⟩:=h;obtain⟨⟨aum,aun,auo,aup,DN,auq,sb,ahQ,aur,ahR⟩,ahS⟩:=eQ;rw[au] at DN;obtain⟨k,⟨a7,a'⟩,⟨aX,a8⟩,⟨cx,bA⟩,du,l⟩:=b;obtain⟨tl,⟨aus,aut⟩,⟨auu,auv⟩,⟨NU,auw⟩,auy,oT⟩:=b1;simp only[JI,Value.bool.injEq,Value.int.injEq,true_and,JJ,JK] at DN;obtain⟨e9,aY,a6,cV,iI,lu,kO,tm,xp,⟨hb,xq,_⟩,BS,Yq,_⟩:=DN;subst e9 aY a6 cV iI lu kO tm xp hb BS;have hc:l=oT:=bb.uniq ahQ xq;subst hc
  have hs:s=s':=by
   rcases w4 s.len with aF|aF
   ·cases s with
    |nil=>
     cases s' with
     |nil=>rfl
     |cons _ _ _ _=>simp[bf.len] at Yq
    |cons _ _ _ _=>simp[bf.len] at aF
   ·obtain⟨dP,ek,NV,bI,_,Ao,qA⟩:=b8 aF;obtain⟨bM,bV,p6,bJ,_,ed,oc⟩:=ahR (by omega);rw[bI] at bJ;injection bJ with bJ;injection bJ with f1 f2;subst f1 f2;rw[Ao] at ed;injection ed with ed;injection ed with ed _;subst ed;exact da.uniq qA oc Yq
  subst hs;have hr:r=j':=da.uniq cY ahS (by simp only[bf.len] at az;omega);rw[hr]
theorem hO.uniq{S xn:afp}{w:aeo}{p:Ja}{s s':bf}(h:hO S w p s)(eQ:hO xn w p s')(az:s.len=s'.len):s=s':=by
 rcases w4 s.len with aF|aF
 ·cases s with
  |nil=>
   cases s' with
   |nil=>rfl
   |cons _ _ _ _=>simp[bf.len] at az
  |cons _ _ _ _=>simp[bf.len] at aF
 ·obtain⟨dP,ek,NV,bI,_,Ao,qA⟩:=h.2 aF;obtain⟨bM,bV,p6,bJ,_,ed,oc⟩:=eQ.2 (by omega);rw[bI] at bJ;injection bJ with bJ;injection bJ with f1 f2;subst f1 f2;rw[Ao] at ed;injection ed with ed;injection ed with ed _;subst ed;exact da.uniq qA oc az
abbrev xr:TypeId:=180
abbrev NW:TypeId:=182
abbrev hQ:=Nat×Nat×Nat
abbrev lv(k:hQ):Value:=.agg #[ah k.1 k.2.1,I (k.2.2:Int)]
theorem ahU(k j:hQ)(w:aeo){ca uH:ajv}{R8 R9:aai}(ha:w.heap[k.1]?=some (.cells ca R8 (0,0)))(ay:w.heap[j.1]?=some (.cells uH R9 (0,0))):(Op.equal xr (lv k) (lv j)).run Tryz.prog w=.ok (decide (k=j)) w:=by
 obtain⟨a,b,c⟩:=k;obtain⟨k1,b1,c'⟩:=j;simp only at ha ay;have hs:Tryz.prog.stoodInHeld xr=false:=by kernel_rfl
 have GM:(Tryz.prog.info? ev).map (fun i=>i.size)=some 11:=by kernel_rfl
 obtain⟨i,hi,fw⟩:∃i,Tryz.prog.info? ev=some i∧i.size=11:=by
  cases h:Tryz.prog.info? ev with
  |none=>rw[h] at GM;cases GM
  |some i=>rw[h] at GM;exact⟨i,rfl,by simpa using GM⟩
 have key:∀(D d:Nat) (r:Bool),D=d+1+1→(sameAddr (aj a b) (aj k1 b1)).run Tryz.prog w=.ok r w→(Op.equalIn D xr (lv (a,b,c)) (lv (k1,b1,c'))).run Tryz.prog w=.ok (r&&decide (c=c')) w:=by
  intro D d r b4 hr;subst b4;have ahV:(Op.equalIn (d+1) 107 (ah a b) (ah k1 b1)).run Tryz.prog w=.ok r w:=(by rw[Op.equalIn];simp[k2 GH,sizeOf,typeInfo,hi,fw,hr]);have Yr:(Op.equalIn (d+1) 3 (I (c:Int)) (I (c':Int))).run Tryz.prog w=.ok (decide (c=c')) w:=(by rw[Op.equalIn];simp[k2 qz];rw[yN,xl,p0];omega);have JN:∀(x:Addr) (y:ada),(part 107 #[.pointer (some x),y] 0).run Tryz.prog w=.ok (.pointer (some x)) w:=(fun x y=>by simp[part,k2 GH]);have b7:∀(x:ada) (y:Int),(part 3 #[x,I y] 1).run Tryz.prog w=.ok (I y) w:=(fun x y=>by simp[part,k2 qz]);rw[Op.equalIn];simp only[k2 NQ,GI,Ak];simp[hs];simp only[JN,b7,ahV,Yr,Ak];cases r
  ·simp[Result.andThen]
  ·by_cases aB:c=c'<;>simp[aB,Result.andThen]
 by_cases hp:(⟨a,b,none⟩:Addr)=⟨k1,b1,none⟩
 ·have h:=key 10000 9998 true (by decide) (by rw[←hp];exact run_sameAddr_same (P:=Tryz.prog) w _);have au:a=k1:=fS Addr.block hp;have ax:b=b1:=fS Addr.off hp;subst au ax;simp only[Op.equal,Op.maxDepth];rw[h];simp
 ·have h:=key 10000 9998 false (by decide) (run_sameAddr_other (P:=Tryz.prog) w hp ha ay);simp only[Op.equal,Op.maxDepth];rw[h];have hn:¬((a,b,c):hQ)=(k1,b1,c'):=fun e=>hp (by rw[show a=k1 from fS (fun x:hQ=>x.1) e,show b=b1 from fS (fun x:hQ=>x.2.1) e]);rw[fJ hn];rfl
def sc(w:aeo)(M:Nat)(L:List (hQ×Int)):Prop:=∃es c,w.heap[M]?=some (.map es c)∧es.toList.map (fun e=>(e.key,e.val))=L.map (fun x=>(lv x.1,Value.int .i64 x.2))
def D9(w:aeo)(L:List (hQ×Int)):Prop:=∀x∈L,∃cs,w.heap[x.1.1]?=some (.cells cs ev (0,0))
def ka(L:List (hQ×Int))(k:hQ):Option Int:=(L.find? fun x=>decide (k=x.1)).map Prod.snd
theorem R'(w:aeo)(k:hQ){ca:ajv}(ha:w.heap[k.1]?=some (.cells ca ev (0,0))):∀(L:List (hQ×Int)) (es:List MapEntry) (i:Nat),D9 w L→es.map (fun e=>(e.key,e.val))=L.map (fun x=>(lv x.1,Value.int .i64 x.2))→
  (Instr.findAsking xr (lv k) es i).run Tryz.prog w=.ok ((L.findIdx? fun x=>decide (k=x.1)).map fun j=>(i+j,Value.int .i64 ((ka L k).getD 0))) w
 |[],es,i,_,he=>by have:es=[]:=(by simpa using he);subst this;simp[Instr.findAsking]
 |x::L,es,i,ay,he=>by
  cases es with
  |nil=>simp at he
  |cons e es=>
   simp only[nx,JI,fg] at he;obtain⟨⟨au,ax⟩,aA⟩:=he;obtain⟨cs,eD⟩:=ay x (by simp);have heq:=ahU k x.1 w ha eD;rw[←au] at heq;by_cases aw:k=x.1
   ·rw[gx aw] at heq;subst aw;simp[Instr.findAsking,heq,ka,ax,BR]
   ·rw[fJ aw] at heq;have cU:=R' w k ha L es (i+1) (fun y hy=>ay y (by simp[hy])) aA;simp[Instr.findAsking,heq,aw,cU,ka,BR,vZ,JL 1];rfl
theorem Sa(k:hQ)(w:aeo):(Instr.checkKey false 10000 xr (lv k)).run Tryz.prog w=.ok () w∧(Instr.checkKey true 10000 xr (lv k)).run Tryz.prog w=.ok () w:=by
 have key:∀(D d:Nat) (em:Bool),D=d+1+1→(Instr.checkKey em D xr (lv k)).run Tryz.prog w=.ok () w:=by intro D d em b4;subst b4;have JN:∀(x:Addr) (y:ada),(part 107 #[.pointer (some x),y] 0).run Tryz.prog w=.ok (.pointer (some x)) w:=(fun x y=>by simp[part,k2 GH]);have b7:∀(x:ada) (y:Int),(part 3 #[x,I y] 1).run Tryz.prog w=.ok (I y) w:=(fun x y=>by simp[part,k2 qz]);have Sb:∀x:Addr,(Instr.checkKey em (d+1) 107 (.pointer (some x))).run Tryz.prog w=.ok () w:=(fun x=>by simp[Instr.checkKey,k2 GH]);have Sc:∀x:Int,(Instr.checkKey em (d+1) 3 (I x)).run Tryz.prog w=.ok () w:=(fun x=>by simp[Instr.checkKey,k2 qz]);rw[Instr.checkKey];simp only[k2 NQ,GI,Ak];simp[JN,b7,Sb,Sc]
 exact⟨key 10000 9998 false (by decide),key 10000 9998 true (by decide)⟩
theorem NX(k:hQ)(es:List MapEntry)(w:aeo):(Instr.findKey xr (lv k) es).run Tryz.prog w=(Instr.findAsking xr (lv k) es).run Tryz.prog w:=
 run_findKey_eq w (by rw[NQ]) _ _
theorem ahW{M:Nat}{L:List (hQ×Int)}(h:sc w M L)(ay:D9 w L)(k:hQ){ca:ajv}(ha:w.heap[k.1]?=some (.cells ca ev (0,0))):
  (Instr.lookup NW (.map (some M)) (lv k) true).run Tryz.prog w=.ok (.tuple #[I ((ka L k).getD 0),U (ka L k).isSome]) w:=by
 obtain⟨es,c,hg,he⟩:=h;have hf:=R' w k ha L es.toList 0 ay he;have BT:∀b,(Instr.checkKey b 10000 xr (lv k)).run Tryz.prog w=.ok () w:=fun b=>by cases b;exact (Sa k w).1;exact (Sa k w).2
 have bP:Tryz.prog.info? 3≠none:=by intro h;have:(Tryz.prog.info? 3).isSome=true:=(by kernel_rfl);rw[h] at this;cases this
 cases hi:L.findIdx? (fun x=>decide (k=x.1)) with
 |none=>
  have hn:ka L k=none:=(by unfold ka;rw[Yo] at hi;rw[List.find?_eq_none.2 (fun x hx=>by simpa using hi x hx)];rfl);rw[hi] at hf;simp[Instr.lookup,k2 NR,NS hg,BT,NX,hf,hn,Result.andThen]
 |some j=>
  have hn:(ka L k).isSome=true:=(by unfold ka;rw[Option.isSome_map,List.find?_isSome];obtain⟨au,ax,_⟩:=List.findIdx?_eq_some_iff_getElem.1 hi;exact⟨L[j],k3 _,ax⟩);rw[hi] at hf;simp[Instr.lookup,k2 NR,NS hg,BT,NX,hf,hn,Result.andThen]
def od(L:List (hQ×Int))(k:hQ)(v:Int):List (hQ×Int):=match L.findIdx? (fun x=>decide (k=x.1)) with
 |some j=>L.set j (k,v)
 |none=>L++[(k,v)]
theorem GN(k j:hQ)(v:Int):∀L:List (hQ×Int),ka (od L k v) j=if j=k then some v else ka L j
 |[]=>by by_cases h:j=k<;>simp[od,ka,h]
 |x::L=>by
  have cU:=GN k j v L;by_cases hx:k=x.1
  ·subst hx;simp only[od,BR,decide_true,List.set_cons_zero,D6];by_cases h:j=x.1
   ·simp[ka,h]
   ·simp[ka,h]
  ·have e:od (x::L) k v=x::od L k v:=(by unfold od;rw[BR,fJ hx];cases L.findIdx? (fun x=>decide (k=x.1))<;>simp);rw[e];by_cases h:j=x.1
   ·have ax:¬j=k:=fun e=>hx (e.symm.trans h);simp[ka,h,List.find?_cons,eN hx]
   ·have aY:ka (x::od L k v) j=ka (od L k v) j:=(by simp[ka,h]);have a6:ka (x::L) j=ka L j:=(by simp[ka,h]);rw[aY,a6,cU]
theorem Ys{k:hQ}{v:Int}{L:List (hQ×Int)}{x:hQ×Int}(h:x∈od L k v):x=(k,v)∨x∈L:=by
 unfold od at h;split at h
 ·exact (Yp h).symm
 ·rw[R7,DR] at h;exact h.symm
theorem ahX(k:hQ)(w:aeo):(Instr.keyThatStays (lv k) (lv k)).run Tryz.prog w=.ok (lv k) w:=by
 have key:∀D d:Nat,D=d+1→Instr.sameBits D (lv k) (lv k)=true:=by intro D d h;subst h;simp[Instr.sameBits]
 simp[Instr.keyThatStays,key 10000 9999 (by decide)]
theorem Sd{M:Nat}{L:List (hQ×Int)}(h:sc w M L)(ay:D9 w L)(k:hQ){ca:ajv}(ha:w.heap[k.1]?=some (.cells ca ev (0,0)))(v:Int):
  ∃bk,(Instr.mapUpdate NW (.map (some M)) (lv k) (I v)).run Tryz.prog w=.ok () bk∧sc bk M (od L k v)∧aK (fun b=>b≠M) w bk∧bk.heap.size=w.heap.size:=by
 obtain⟨es,c,hg,he⟩:=h;have hf:=R' w k ha L es.toList 0 ay he;have BT:=(Sa k w).1;have wa:∀qB c',aK (fun b=>b≠M) w {w with heap:=w.heap.setIfInBounds M (.map qB c')}:=fun qB c'=>⟨rfl,rfl,rfl,by simp,fun b ay _=>by show (w.heap.setIfInBounds M _)[b]?=_;rw[xm,aN (eN ay)]⟩;have bm:=lt_of_heap hg;cases hi:L.findIdx? (fun x=>decide (k=x.1)) with
 |none=>
  rw[hi] at hf
  refine ⟨{w with heap:=w.heap.setIfInBounds M (.map (es.push {key:=lv k,val:= I v,born:=c}) (c+1))},?_,⟨_,_,by
   show (w.heap.setIfInBounds M _)[M]?=_;rw[xm,aW rfl,aW bm],?_⟩,wa _ _,by simp⟩
  ·simp[Instr.mapUpdate,k2 NR,NS hg,BT,NX,hf,NT _ hg,Result.andThen]
  ·unfold od;rw[hi];simp only[Array.toList_push,v7,he,nx,nF]
 |some j=>
  rw[hi] at hf;obtain⟨au,ax,_⟩:=List.findIdx?_eq_some_iff_getElem.1 hi;have tj:j<es.toList.length:=(by have:=fS List.length he;simp only[jV] at this;omega);have D':(es[j]?).map (·.key)=some (lv k):=by have aA:=fS (fun l=>l[j]?) he;simp only[D7,iW tj,iW au,An,r0,fg] at aA;have bb:es[j]?=some es.toList[j]:=(by rw[←yO,iW tj]);rw[bb,An,aA.1];have:k=L[j].1:=(by simpa using ax);rw[this]
  refine ⟨{w with heap:=w.heap.setIfInBounds M (.map (es.modify j fun e=>{e with key:=lv k,val:= I v}) c)},?_,⟨_,_,by
   show (w.heap.setIfInBounds M _)[M]?=_;rw[xm,aW rfl,aW bm],?_⟩,wa _ _,by simp⟩
  ·simp[Instr.mapUpdate,k2 NR,NS hg,BT,NX,hf,D',ahX,NT _ hg,Result.andThen]
  ·unfold od;rw[hi];apply GA;intro n;have aA:=fS (fun l=>l[n]?) he;simp only[D7,Array.toList_modify,List.getElem?_modify,List.getElem?_set] at aA⊢;by_cases hn:j=n
   ·subst hn;rw[iW tj];simp[au]
   ·simp only[hn,JM] at aA⊢;simpa using aA
structure gN(w0:aeo)(g:Nat)(bq cz out:ajv)(x:aeo):Prop where
 bq:al x g bq cQ
 cz:al x (g+1) cz pA
 res:al x (g+1+1) (#[I 0,I 0,I 0,I 0,I 0,I 0,I 0,I 0,J 0,J 0]) cQ
 out:al x (g+1+1+1) out cQ
 aM:Below g w0 x
variable{g:Nat}
theorem gN.below{bq cz out:ajv}{y:aeo}(h:gN w0 g bq cz out x)(ay:an x x y):gN w0 g bq cz out y:=
 ⟨ba h.bq ay,ba h.cz ay,ba h.res ay,ba h.out ay,h.aM.trans (ay.mono (by have:=lt_of_heap h.bq;omega))⟩
theorem tn{k i j:Nat}{u:ada}(h:k≠j):(w.setCell (aj j i) u).heap[k]?=w.heap[k]?:=hC _ _ _ _ h
theorem gN.set{bq cz out:ajv}(h:gN w0 g bq cz out x)(i:Nat)(u:ada):gN w0 g bq cz (out.setIfInBounds i u) (x.setCell (aj (g+1+1+1) i) u):=
 ⟨(tn (by omega)).trans h.bq,(tn (by omega)).trans h.cz,(tn (by omega)).trans h.res,dt u h.out,h.aM.setCell (p:=⟨g+1+1+1,i,none⟩) (by show g≤g+1+1+1;omega) _⟩
theorem GO{W:aeo}{ek bV gl hI:Obj}(h:(((w.alloc ek).alloc bV).alloc gl).alloc hI=W):W.heap[w.heap.size]?=some ek∧W.heap[w.heap.size+1]?=some bV∧W.heap[w.heap.size+1+1]?=some gl∧W.heap[w.heap.size+1+1+1]?=some hI∧an w w W:=by subst h;obtain⟨au,ax,aA,ay,hs⟩:=DS (rfl:((w.alloc ek).alloc bV).alloc gl=_);have bb:=cR (((w.alloc ek).alloc bV).alloc gl) hI;have b:=bh (((w.alloc ek).alloc bV).alloc gl) hI;rw[hs] at bb;exact⟨ba au b,ba ax b,ba aA b,bb,ay.trans (b.mono ay.size)⟩
theorem na{k:Nat}{cs:ajv}{t:aai}(h:al w k cs t)(i:Nat):w.frozen? ⟨k,i,none⟩=false:=by simp[World.frozen?,h]
theorem Ea{b:dK}{s:bf}{f:Nat}{left m:Int}(h:mv b s f left=some m):¬left<1∧uv b s.len=true∧(b.k≠6→jS b=true∧m=left-1)∧(b.k=6→¬8≤f∧ir s (f+1) (left-1)=some m):=by
 by_cases aF:left<1∨uv b s.len=false
 ·rw[RR aF] at h;cases h
 ·have au:¬left<1:=fun h=>aF (.inl h)
  have ax:uv b s.len=true:=by
   cases aA:uv b s.len
   ·exact absurd (.inr aA) aF
   ·rfl
  refine⟨au,ax,fun aw=>?_,fun aw=>?_⟩
  ·rw[D1 au ax aw rfl] at h;split at h
   ·rename_i hs;injection h with h;exact⟨hs,h.symm⟩
   ·cases h
  ·rw[Yc au ax aw] at h;split at h
   ·cases h
   ·rename_i dM;exact⟨dM,h⟩
def lx(x:aeo)(g i:Nat):Value:=(x.cell? (aj g i)).getD undef
theorem pC{i:Nat}{v:ada}(h:ak x g i v):ak x g i (lx x g i):=by unfold lx;rw[h];rfl
abbrev sd(w0:aeo)(g:Nat)(a7 a' aX a8 cx bA:Int)(bx bO:Bool)(cb ex cm k r:Int)(bq cz:ajv)(x:aeo):Prop:=
 x.cell? ⟨g,1,none⟩=some (I a7)∧ak x g 2 (I a')∧ak x g 3 (I aX)∧ak x g 4 (I a8)∧ak x g 5 (I cx)∧ak x g 6 (I bA)∧
 ak x (g+1) 0 (U bx)∧ak x (g+1) 1 (U bO)∧ak x (g+1) 2 (I cb)∧ak x (g+1) 3 (I ex)∧ak x (g+1) 4 (I cm)∧g+1+1+1<x.heap.size∧
 ak x (g+1+1+1) 1 (lx x (g+1+1+1) 1)∧x.frozen? ⟨g+1+1+1,1,none⟩=false∧ak x (g+1+1+1) 2 (lx x (g+1+1+1) 2)∧x.frozen? ⟨g+1+1+1,2,none⟩=false∧ak x (g+1+1+1) 3 (lx x (g+1+1+1) 3)∧x.frozen? ⟨g+1+1+1,3,none⟩=false∧ak x (g+1+1+1) 4 (lx x (g+1+1+1) 4)∧x.frozen? ⟨g+1+1+1,4,none⟩=false∧ak x (g+1+1+1) 5 (lx x (g+1+1+1) 5)∧x.frozen? ⟨g+1+1+1,5,none⟩=false∧ak x (g+1+1+1) 6 (lx x (g+1+1+1) 6)∧x.frozen? ⟨g+1+1+1,6,none⟩=false∧
 ∃ek bV gl hI jF jG,gN w0 g bq cz #[I k,ek,bV,gl,hI,jF,jG,I r,J 0,J 0] x
variable{k a7 a' aX a8 cx bA r cb ex cm:Int}{bx bO:Bool}
theorem Se{gb gv:ada}{dS gp:Int}{ek bV gl hI jF jG:ada}(h:gN w0 g #[I k,I a7,I a',I aX,I a8,I cx,I bA,I r,gb,gv] #[U bx,U bO,I cb,I ex,I cm] #[I dS,ek,bV,gl,hI,jF,jG,I gp,J 0,J 0] x):
  sd w0 g a7 a' aX a8 cx bA bx bO cb ex cm dS gp #[I k,I a7,I a',I aX,I a8,I cx,I bA,I r,gb,gv] #[U bx,U bO,I cb,I ex,I cm] x:=by
 obtain⟨_,g1,g2,g3,g4,g5,g6,_,_,_⟩:=dQ h.bq;obtain⟨t0,t1,t2,t3,t4⟩:=uF h.cz;obtain⟨_,fx,df,yP,Eb,Ec,kP,_,_,_⟩:=dQ h.out;have f:=na h.out;exact⟨g1,g2,g3,g4,g5,g6,t0,t1,t2,t3,t4,lt_of_heap h.out,pC fx,f 1,pC df,f 2,pC yP,f 3,pC Eb,f 4,pC Ec,f 5,pC kP,f 6,_,_,_,_,_,_,h⟩
theorem Ed{bq cz:ajv}{ek bV gl hI jF jG:ada}(h:sd w0 g a7 a' aX a8 cx bA bx bO cb ex cm k r bq cz v)(aI:x.heap[g]?=v.heap[g]?)(yQ:x.heap[g+1]?=v.heap[g+1]?)(hm:gN w0 g bq cz #[I k,ek,bV,gl,hI,jF,jG,I r,J 0,J 0] x):sd w0 g a7 a' aX a8 cx bA bx bO cb ex cm k r bq cz x:=by obtain⟨au,ax,aA,bb,bj,b8,cY,dM,e6,ly,ux,_⟩:=h;obtain⟨_,fx,df,yP,Eb,Ec,kP,_,_,_⟩:=dQ hm.out;have f:=na hm.out;have aT:∀i,x.cell? ⟨g,i,none⟩=v.cell? (aj g i):=fun i=>World.cell?_of_block aI;have c2:∀i,x.cell? ⟨g+1,i,none⟩=v.cell? (aj (g+1) i):=fun i=>World.cell?_of_block yQ;exact⟨(aT 1).trans au,(aT 2).trans ax,(aT 3).trans aA,(aT 4).trans bb,(aT 5).trans bj,(aT 6).trans b8,(c2 0).trans cY,(c2 1).trans dM,(c2 2).trans e6,(c2 3).trans ly,(c2 4).trans ux,lt_of_heap hm.out,pC fx,f 1,pC df,f 2,pC yP,f 3,pC Eb,f 4,pC Ec,f 5,pC kP,f 6,_,_,_,_,_,_,hm⟩
theorem Yt{bq cz:ajv}(h:sd w0 g a7 a' aX a8 cx bA bx bO cb ex cm k r bq cz v):∃ek bV gl hI jF jG,gN w0 g bq cz #[I k,ek,bV,gl,hI,jF,jG,I r,J 0,J 0] v:=h.2.2.2.2.2.2.2.2.2.2.2.2.2.2.2.2.2.2.2.2.2.2.2.2
theorem NY{bq cz:ajv}(ay:an v v x)(h:sd w0 g a7 a' aX a8 cx bA bx bO cb ex cm k r bq cz v):sd w0 g a7 a' aX a8 cx bA bx bO cb ex cm k r bq cz x:=by obtain⟨ek,bV,gl,hI,jF,jG,hm⟩:=Yt h;exact Ed h (ay.block _ (lt_of_heap hm.bq)) (ay.block _ (lt_of_heap hm.cz)) (hm.below ay)
theorem Sf{bq cz:ajv}(h:sd w0 g a7 a' aX a8 cx bA bx bO cb ex cm k r bq cz x):sd w0 g a7 a' aX a8 cx bA bx bO cb ex cm k r bq cz x.drew:=NY (Below.refl _ _).drew h
theorem Yu{bq cz:ajv}(i:Nat)(u:ada)(hi:1≤i∧i≤6)(h:sd w0 g a7 a' aX a8 cx bA bx bO cb ex cm k r bq cz v):sd w0 g a7 a' aX a8 cx bA bx bO cb ex cm k r bq cz (v.setCell (aj (g+1+1+1) i) u):=by
 obtain⟨ek,bV,gl,hI,jF,jG,hm⟩:=Yt h;have jH:=hm.set i u;have aY:(v.setCell (aj (g+1+1+1) i) u).heap[g]?=v.heap[g]?:=tn (by omega);have a6:(v.setCell (aj (g+1+1+1) i) u).heap[g+1]?=v.heap[g+1]?:=tn (by omega);have:i=1∨i=2∨i=3∨i=4∨i=5∨i=6:=by omega
 rcases this with rfl|rfl|rfl|rfl|rfl|rfl
 ·exact Ed h aY a6 jH
 ·exact Ed h aY a6 jH
 ·exact Ed h aY a6 jH
 ·exact Ed h aY a6 jH
 ·exact Ed h aY a6 jH
 ·exact Ed h aY a6 jH
theorem Ee{bq cz:ajv}(i:Nat){u u2:ada}(hi:1≤i∧i≤5)(h:sd w0 g a7 a' aX a8 cx bA bx bO cb ex cm k r bq cz v):sd w0 g a7 a' aX a8 cx bA bx bO cb ex cm k r bq cz ((v.setCell (aj (g+1+1+1) i) u).setCell (aj (g+1+1+1) (i+1)) u2):=Yu (i+1) u2 (by omega) (Yu i u (by omega) h)
def xt(w:aeo)(t:gj)(b:dK)(s:bf)(e:Ending)(w':aeo):Prop:=∃(ql:Ja) (dl:Nat) (qp:Ja) (cf:Nat),e=ab (jc (pq t ⟨b,s⟩).b (ad ql (pq t ⟨b,s⟩).b.l.length dl) (ad qp (pq t ⟨b,s⟩).p.len cf))∧dw (fun k=>w.heap.size≤k) w' ql dl qp cf (pq t ⟨b,s⟩)∧an w w w'
theorem xt.mk{t:gj}{b b1:dK}{s xu:bf}{w':aeo}(bc:pq t ⟨b,s⟩=⟨b1,xu⟩){v:ada}(ql:Ja)(dl:Nat)(qp:Ja)(cf:Nat)(aS:v=jc b1 (ad ql b1.l.length dl) (ad qp xu.len cf))(hs:dw (fun k=>w.heap.size≤k) w' ql dl qp cf ⟨b1,xu⟩)(ay:an w w w'):xt w t b s (ab v) w':=by
 refine⟨ql,dl,qp,cf,?_,?_,ay⟩
 ·rw[bc,aS]
 ·rw[bc];exact hs
def kp(w:aeo)(g:Nat)(v0 v1 v2 v3 v4 v5 v6 bS b0 v9:ada):World:=
 (((((((((w.setCell (aj g 0) v0).setCell (aj g 1) v1).setCell (aj g 2) v2).setCell (aj g 3) v3).setCell (aj g 4) v4).setCell (aj g 5) v5).setCell (aj g 6) v6).setCell (aj g 7) bS).setCell (aj g 8) b0).setCell (aj g 9) v9
theorem Ap{a0 ew a2 a3 a4 a5 rr pB tk a9:ada}{t:aai}(v0 v1 v2 v3 v4 v5 v6 bS b0 v9:ada)(h:al w g (#[a0,ew,a2,a3,a4,a5,rr,pB,tk,a9]) t):(kp w g v0 v1 v2 v3 v4 v5 v6 bS b0 v9).heap[g]?=some (.cells #[v0,v1,v2,v3,v4,v5,v6,bS,b0,v9] t):=by unfold kp;have aF:(w.setCell (aj g 0) v0).heap[g]?=some (.cells #[v0,ew,a2,a3,a4,a5,rr,pB,tk,a9] t):=dt v0 h;have au:((w.setCell (aj g 0) v0).setCell (aj g 1) v1).heap[g]?=some (.cells #[v0,v1,a2,a3,a4,a5,rr,pB,tk,a9] t):=dt v1 aF;have ax:(((w.setCell (aj g 0) v0).setCell (aj g 1) v1).setCell (aj g 2) v2).heap[g]?=some (.cells #[v0,v1,v2,a3,a4,a5,rr,pB,tk,a9] t):=dt v2 au;have aA:((((w.setCell (aj g 0) v0).setCell (aj g 1) v1).setCell (aj g 2) v2).setCell (aj g 3) v3).heap[g]?=some (.cells #[v0,v1,v2,v3,a4,a5,rr,pB,tk,a9] t):=dt v3 ax;have bb:(((((w.setCell (aj g 0) v0).setCell (aj g 1) v1).setCell (aj g 2) v2).setCell (aj g 3) v3).setCell (aj g 4) v4).heap[g]?=some (.cells #[v0,v1,v2,v3,v4,a5,rr,pB,tk,a9] t):=dt v4 aA;have bj:((((((w.setCell (aj g 0) v0).setCell (aj g 1) v1).setCell (aj g 2) v2).setCell (aj g 3) v3).setCell (aj g 4) v4).setCell (aj g 5) v5).heap[g]?=some (.cells #[v0,v1,v2,v3,v4,v5,rr,pB,tk,a9] t):=dt v5 bb;have b8:(((((((w.setCell (aj g 0) v0).setCell (aj g 1) v1).setCell (aj g 2) v2).setCell (aj g 3) v3).setCell (aj g 4) v4).setCell (aj g 5) v5).setCell (aj g 6) v6).heap[g]?=some (.cells #[v0,v1,v2,v3,v4,v5,v6,pB,tk,a9] t):=dt v6 bj;have cY:((((((((w.setCell (aj g 0) v0).setCell (aj g 1) v1).setCell (aj g 2) v2).setCell (aj g 3) v3).setCell (aj g 4) v4).setCell (aj g 5) v5).setCell (aj g 6) v6).setCell (aj g 7) bS).heap[g]?=some (.cells #[v0,v1,v2,v3,v4,v5,v6,bS,tk,a9] t):=dt bS b8;have dM:(((((((((w.setCell (aj g 0) v0).setCell (aj g 1) v1).setCell (aj g 2) v2).setCell (aj g 3) v3).setCell (aj g 4) v4).setCell (aj g 5) v5).setCell (aj g 6) v6).setCell (aj g 7) bS).setCell (aj g 8) b0).heap[g]?=some (.cells #[v0,v1,v2,v3,v4,v5,v6,bS,b0,a9] t):=dt b0 cY;have e6:((((((((((w.setCell (aj g 0) v0).setCell (aj g 1) v1).setCell (aj g 2) v2).setCell (aj g 3) v3).setCell (aj g 4) v4).setCell (aj g 5) v5).setCell (aj g 6) v6).setCell (aj g 7) bS).setCell (aj g 8) b0).setCell (aj g 9) v9).heap[g]?=some (.cells #[v0,v1,v2,v3,v4,v5,v6,bS,b0,v9] t):=dt v9 dM;exact e6
theorem Sg{S:afp}(v0 v1 v2 v3 v4 v5 v6 bS b0 v9:ada)(h:¬S g):aK S w (kp w g v0 v1 v2 v3 v4 v5 v6 bS b0 v9):=by unfold kp;exact (((((((((aK.set (a:=⟨g,0,none⟩) h v0).trans (.set (a:=⟨g,1,none⟩) h v1)).trans (.set (a:=⟨g,2,none⟩) h v2)).trans (.set (a:=⟨g,3,none⟩) h v3)).trans (.set (a:=⟨g,4,none⟩) h v4)).trans (.set (a:=⟨g,5,none⟩) h v5)).trans (.set (a:=⟨g,6,none⟩) h v6)).trans (.set (a:=⟨g,7,none⟩) h bS)).trans (.set (a:=⟨g,8,none⟩) h b0)).trans (.set (a:=⟨g,9,none⟩) h v9)
theorem Aq{B:Nat}(v0 v1 v2 v3 v4 v5 v6 bS b0 v9:ada)(h:Below B w0 w)(aI:B≤g):Below B w0 (kp w g v0 v1 v2 v3 v4 v5 v6 bS b0 v9):=
 ((((((((((h.setCell (p:=⟨g,0,none⟩) aI v0).setCell (p:=⟨g,1,none⟩) aI v1).setCell (p:=⟨g,2,none⟩) aI v2).setCell (p:=⟨g,3,none⟩) aI v3).setCell (p:=⟨g,4,none⟩) aI v4).setCell (p:=⟨g,5,none⟩) aI v5).setCell (p:=⟨g,6,none⟩) aI v6).setCell (p:=⟨g,7,none⟩) aI bS).setCell (p:=⟨g,8,none⟩) aI b0).setCell (p:=⟨g,9,none⟩) aI v9)
theorem ahY(s:bf)(b:dK)(aw:b.k=1)(f:Nat)(left m:Int)(S:afp)(pl:Ja)(cl:Nat)(pp:Ja)(cp:Nat)(w:aeo)(t:gj)
  (fj:af (e5 t.eI.1∧e5 t.eI.2)) (ff:af (dw S w pl cl pp cp ⟨b,s⟩)) (a1:af (mv b s f left=some m)):
  Calls Tryz.prog 186 #[jc b (ad pl b.l.length cl) (ad pp s.len cp),rp t] w (xt w t b s):=by
 obtain⟨k,⟨a7,a'⟩,⟨aX,a8⟩,⟨cx,bA⟩,r,l⟩:=b;obtain⟨bx,bO,cb,ex,cm⟩:=t;simp only at aw;subst aw;show Calls _ _ #[.agg #[I 1,I a7,I a',I aX,I a8,I cx,I bA,I r,ad pl l.length cl,ad pp s.len cp],.agg #[U bx,U bO,I cb,I ex,I cm]] w _;go_enter GJ,GK;go_upto_region 2 with fail;obtain⟨W,cP⟩:=aq ((((w.alloc (ai (#[I 1,I a7,I a',I aX,I a8,I cx,I bA,I r,ad pl l.length cl,ad pp s.len cp]) cQ)).alloc (ai (#[U bx,U bO,I cb,I ex,I cm]) pA)).alloc (ai (#[I 0,I 0,I 0,I 0,I 0,I 0,I 0,I 0,J 0,J 0]) cQ)).alloc (ai (#[I 1,I 0,I 0,I 0,I 0,I 0,I 0,I r,J 0,J 0]) cQ));have bN:af (gN w w.heap.size #[I 1,I a7,I a',I aX,I a8,I cx,I bA,I r,ad pl l.length cl,ad pp s.len cp] #[U bx,U bO,I cb,I ex,I cm] #[I 1,I 0,I 0,I 0,I 0,I 0,I 0,I r,J 0,J 0] W):=by obtain⟨au,ax,aA,bb,ay⟩:=GO cP;exact⟨au,ax,aA,bb,ay⟩
 rw[cP];clear cP;obtain⟨g0,g1,g2,g3,g4,g5,g6,g7,g8,g9⟩:=dQ bN.out.bq;obtain⟨t0,t1,t2,t3,t4⟩:=uF bN.out.cz;have n0:=lt_of_heap bN.out.out;have dk:=na bN.out.out;obtain⟨⟨x,y⟩,hp⟩:∃p:b7,fI ⟨bx,bO,cb,(ex,cm)⟩ (a7,a')=p:=⟨_,rfl⟩;have bw:=ao hp;have tp:(-536870912≤a7∧a7≤536870912)∧-536870912≤a'∧a'≤536870912:=vW (p:=(a7,a')) (by have:=((Ea a1.out).2.2.1 (show (1:Int)≠6 by decide)).1;simp[jS] at this;exact this.1);go_wp2_with fail;refine (rq _ a7 a' tp.1 tp.2 fj.out.1 fj.out.2 x y bw W).mono ?_;rintro e bk ⟨rfl,cj⟩;have ez:=ao (bN.out.below cj);clear cj g0 g1 g2 g3 g4 g5 g6 g7 g8 g9 t0 t1 t2 t3 t4 n0 dk bN hp;have n0:=lt_of_heap ez.out.out;have dk:=na ez.out.out;obtain⟨k4,ek,bV,gl,hI,jF,jG,nG,nH,mx⟩:=dQ ez.out.out;have eo:=ao ((ez.out.set 1 (I x)).set 2 (I y));go_upto_region 32 with fail;generalize (bk.setCell (aj (w.heap.size+1+1+1) 1) (I x)).setCell (aj (w.heap.size+1+1+1) 2) (I y)=bt at eo⊢;clear k4 ek bV gl hI jF jG nG nH mx;obtain⟨k4,ek,bV,gl,hI,jF,jG,nG,nH,mx⟩:=dQ eo.out.out;obtain⟨du,dI,h4,qC,qD,qE,qF,tq,xv,xw⟩:=dQ eo.out.res;have fr:=na eo.out.res;have eG:=lt_of_heap eo.out.res;clear n0 dk;go_wp2_with fail;change bodyPost _ _ _ _ _ (kp bt (w.heap.size+1+1) (I 1) (I x) (I y) (I 0) (I 0) (I 0) (I 0) (I r) (J 0) (J 0));have hF:=Ap (I 1) (I x) (I y) (I 0) (I 0) (I 0) (I 0) (I r) (J 0) (J 0) eo.out.res;have bz:=Aq (I 1) (I x) (I y) (I 0) (I 0) (I 0) (I 0) (I r) (J 0) (J 0) eo.out.aM (show w.heap.size≤w.heap.size+1+1 by omega);have hS:=dw.bare (fun k=>w.heap.size≤k) (kp bt (w.heap.size+1+1) (I 1) (I x) (I y) (I 0) (I 0) (I 0) (I 0) (I r) (J 0) (J 0)) none none ⟨1,(x,y),(0,0),(0,0),r,[]⟩ 0 0 rfl;generalize kp bt (w.heap.size+1+1) (I 1) (I x) (I y) (I 0) (I 0) (I 0) (I 0) (I r) (J 0) (J 0)=cZ at hF bz hS⊢;obtain⟨aV,aT,c2,c3,cD,c5,cX,c7,dj,bB⟩:=dQ hF;exact cL (v:=.agg #[I 1,I x,I y,I 0,I 0,I 0,I 0,I r,J 0,J 0]) (by simp[results,GL,go_sem,aV,aT,c2,c3,cD,c5,cX,c7,dj,bB]) rfl (.mk (by simp[pq,BI,fN,bw.out]:_=(⟨⟨1,(x,y),(0,0),(0,0),r,[]⟩,.nil⟩:dq)) none 0 none 0 rfl hS bz)
theorem ahZ(s:bf)(b:dK)(aw:b.k=3)(f:Nat)(left m:Int)(S:afp)(pl:Ja)(cl:Nat)(pp:Ja)(cp:Nat)(w:aeo)(t:gj)
  (fj:af (e5 t.eI.1∧e5 t.eI.2)) (ff:af (dw S w pl cl pp cp ⟨b,s⟩)) (a1:af (mv b s f left=some m)):
  Calls Tryz.prog 186 #[jc b (ad pl b.l.length cl) (ad pp s.len cp),rp t] w (xt w t b s):=by
 obtain⟨k,⟨a7,a'⟩,⟨aX,a8⟩,⟨cx,bA⟩,r,l⟩:=b;obtain⟨bx,bO,cb,ex,cm⟩:=t;simp only at aw;subst aw;show Calls _ _ #[.agg #[I 3,I a7,I a',I aX,I a8,I cx,I bA,I r,ad pl l.length cl,ad pp s.len cp],.agg #[U bx,U bO,I cb,I ex,I cm]] w _;go_enter GJ,GK;go_upto_region 2 with fail;obtain⟨W,cP⟩:=aq ((((w.alloc (ai (#[I 3,I a7,I a',I aX,I a8,I cx,I bA,I r,ad pl l.length cl,ad pp s.len cp]) cQ)).alloc (ai (#[U bx,U bO,I cb,I ex,I cm]) pA)).alloc (ai (#[I 0,I 0,I 0,I 0,I 0,I 0,I 0,I 0,J 0,J 0]) cQ)).alloc (ai (#[I 3,I 0,I 0,I 0,I 0,I 0,I 0,I r,J 0,J 0]) cQ));have bN:af (gN w w.heap.size #[I 3,I a7,I a',I aX,I a8,I cx,I bA,I r,ad pl l.length cl,ad pp s.len cp] #[U bx,U bO,I cb,I ex,I cm] #[I 3,I 0,I 0,I 0,I 0,I 0,I 0,I r,J 0,J 0] W):=by obtain⟨au,ax,aA,bb,ay⟩:=GO cP;exact⟨au,ax,aA,bb,ay⟩
 rw[cP];clear cP;obtain⟨g0,g1,g2,g3,g4,g5,g6,g7,g8,g9⟩:=dQ bN.out.bq;obtain⟨t0,t1,t2,t3,t4⟩:=uF bN.out.cz;have n0:=lt_of_heap bN.out.out;have dk:=na bN.out.out;obtain⟨⟨x,y⟩,hp⟩:∃p:b7,fI ⟨bx,bO,cb,(ex,cm)⟩ (a7,a')=p:=⟨_,rfl⟩;obtain⟨⟨u,v⟩,oc⟩:∃p:b7,fI ⟨bx,bO,cb,(ex,cm)⟩ (aX,a8)=p:=⟨_,rfl⟩;have bw:=ao hp;have kb:=ao oc;have oU:gU (a7,a')=true∧gU (aX,a8)=true:=by have:=((Ea a1.out).2.2.1 (show (3:Int)≠6 by decide)).1;simp[jS] at this;exact⟨this.1,this.2.1⟩
 have tp:=ao (vW oU.1);have se:=ao (vW oU.2);clear hp oc oU;go_upto_region 7 with fail;have gy:=ao (Sf (Se bN.out));clear g0 g1 g2 g3 g4 g5 g6 g7 g8 g9 t0 t1 t2 t3 t4 n0 dk
 go_region_held3 (fun Z=>sd w w.heap.size a7 a' aX a8 cx bA bx bO cb ex cm 3 r #[I 3,I a7,I a',I aX,I a8,I cx,I bA,I r,ad pl l.length cl,ad pp s.len cp] #[U bx,U bO,I cb,I ex,I cm] Z) (first|with_reducible exact gy.out|with_reducible exact NY (by assumption) (by assumption)|with_reducible exact Ee 1 (by decide) (by assumption)|with_reducible exact Ee 3 (by decide) (by assumption)|fail) (first|(go_at_call 206;with_reducible refine (rq ⟨bx,bO,cb,(ex,cm)⟩ a7 a' tp.out.1 tp.out.2 fj.out.1 fj.out.2 x y bw _).mono ?_;rintro e br ⟨rfl,dX⟩)|(go_at_call 206;with_reducible refine (rq ⟨bx,bO,cb,(ex,cm)⟩ aX a8 se.out.1 se.out.2 fj.out.1 fj.out.2 u v kb _).mono ?_;rintro e br ⟨rfl,dX⟩)|fail)
 rename_i Yv BU hHeld;have Ar:af (gN w w.heap.size #[I 3,I a7,I a',I aX,I a8,I cx,I bA,I r,ad pl l.length cl,ad pp s.len cp] #[U bx,U bO,I cb,I ex,I cm] #[I 3,I 0,I 0,I 0,I 0,I 0,I 0,I r,J 0,J 0] (br)):=ao (((bN.out.below (Below.refl _ _).drew).below BU).below dX);have p7:af (gN w w.heap.size #[I 3,I a7,I a',I aX,I a8,I cx,I bA,I r,ad pl l.length cl,ad pp s.len cp] #[U bx,U bO,I cb,I ex,I cm] #[I 3,I x,I 0,I 0,I 0,I 0,I 0,I r,J 0,J 0] ((br.setCell (aj (w.heap.size+1+1+1) 1) (I x)))):=ao (Ar.out.set 1 (I x));have tr:af (gN w w.heap.size #[I 3,I a7,I a',I aX,I a8,I cx,I bA,I r,ad pl l.length cl,ad pp s.len cp] #[U bx,U bO,I cb,I ex,I cm] #[I 3,I x,I y,I 0,I 0,I 0,I 0,I r,J 0,J 0] (((br.setCell (aj (w.heap.size+1+1+1) 1) (I x)).setCell (aj (w.heap.size+1+1+1) 2) (I y)))):=ao (p7.out.set 2 (I y));have oV:af (gN w w.heap.size #[I 3,I a7,I a',I aX,I a8,I cx,I bA,I r,ad pl l.length cl,ad pp s.len cp] #[U bx,U bO,I cb,I ex,I cm] #[I 3,I x,I y,I u,I 0,I 0,I 0,I r,J 0,J 0] ((((br.setCell (aj (w.heap.size+1+1+1) 1) (I x)).setCell (aj (w.heap.size+1+1+1) 2) (I y)).setCell (aj (w.heap.size+1+1+1) 3) (I u)))):=ao (tr.out.set 3 (I u));have tt:af (gN w w.heap.size #[I 3,I a7,I a',I aX,I a8,I cx,I bA,I r,ad pl l.length cl,ad pp s.len cp] #[U bx,U bO,I cb,I ex,I cm] #[I 3,I x,I y,I u,I v,I 0,I 0,I r,J 0,J 0] (((((br.setCell (aj (w.heap.size+1+1+1) 1) (I x)).setCell (aj (w.heap.size+1+1+1) 2) (I y)).setCell (aj (w.heap.size+1+1+1) 3) (I u)).setCell (aj (w.heap.size+1+1+1) 4) (I v)))):=ao (oV.out.set 4 (I v));have eo:=tt;clear Ar p7 tr oV tt;generalize (((br.setCell (aj (w.heap.size+1+1+1) 1) (I x)).setCell (aj (w.heap.size+1+1+1) 2) (I y)).setCell (aj (w.heap.size+1+1+1) 3) (I u)).setCell (aj (w.heap.size+1+1+1) 4) (I v)=bt at eo⊢;clear BU hHeld dX gy bN;go_upto_region 32 with fail;obtain⟨k4,ek,bV,gl,hI,jF,jG,nG,nH,mx⟩:=dQ eo.out.out;obtain⟨du,dI,h4,qC,qD,qE,qF,tq,xv,xw⟩:=dQ eo.out.res;have fr:=na eo.out.res;have eG:=lt_of_heap eo.out.res;go_wp2_with fail;change bodyPost _ _ _ _ _ (kp bt (w.heap.size+1+1) (I 3) (I x) (I y) (I u) (I v) (I 0) (I 0) (I r) (J 0) (J 0));have hF:=Ap (I 3) (I x) (I y) (I u) (I v) (I 0) (I 0) (I r) (J 0) (J 0) eo.out.res;have bz:=Aq (I 3) (I x) (I y) (I u) (I v) (I 0) (I 0) (I r) (J 0) (J 0) eo.out.aM (show w.heap.size≤w.heap.size+1+1 by omega);have hS:=dw.bare (fun k=>w.heap.size≤k) (kp bt (w.heap.size+1+1) (I 3) (I x) (I y) (I u) (I v) (I 0) (I 0) (I r) (J 0) (J 0)) none none ⟨3,(x,y),(u,v),(0,0),r,[]⟩ 0 0 rfl;generalize kp bt (w.heap.size+1+1) (I 3) (I x) (I y) (I u) (I v) (I 0) (I 0) (I r) (J 0) (J 0)=cZ at hF bz hS⊢;obtain⟨aV,aT,c2,c3,cD,c5,cX,c7,dj,bB⟩:=dQ hF;exact cL (v:=.agg #[I 3,I x,I y,I u,I v,I 0,I 0,I r,J 0,J 0]) (by simp[results,GL,go_sem,aV,aT,c2,c3,cD,c5,cX,c7,dj,bB]) rfl (.mk (by simp[pq,BI,fN,bw.out,kb.out]:_=(⟨⟨3,(x,y),(u,v),(0,0),r,[]⟩,.nil⟩:dq)) none 0 none 0 rfl hS bz)
theorem ah0(s:bf)(b:dK)(aw:b.k=4)(f:Nat)(left m:Int)(S:afp)(pl:Ja)(cl:Nat)(pp:Ja)(cp:Nat)(w:aeo)(t:gj)
  (fj:af (e5 t.eI.1∧e5 t.eI.2)) (ff:af (dw S w pl cl pp cp ⟨b,s⟩)) (a1:af (mv b s f left=some m)):
  Calls Tryz.prog 186 #[jc b (ad pl b.l.length cl) (ad pp s.len cp),rp t] w (xt w t b s):=by
 obtain⟨k,⟨a7,a'⟩,⟨aX,a8⟩,⟨cx,bA⟩,r,l⟩:=b;obtain⟨bx,bO,cb,ex,cm⟩:=t;simp only at aw;subst aw;show Calls _ _ #[.agg #[I 4,I a7,I a',I aX,I a8,I cx,I bA,I r,ad pl l.length cl,ad pp s.len cp],.agg #[U bx,U bO,I cb,I ex,I cm]] w _;go_enter GJ,GK;go_upto_region 2 with fail;obtain⟨W,cP⟩:=aq ((((w.alloc (ai (#[I 4,I a7,I a',I aX,I a8,I cx,I bA,I r,ad pl l.length cl,ad pp s.len cp]) cQ)).alloc (ai (#[U bx,U bO,I cb,I ex,I cm]) pA)).alloc (ai (#[I 0,I 0,I 0,I 0,I 0,I 0,I 0,I 0,J 0,J 0]) cQ)).alloc (ai (#[I 4,I 0,I 0,I 0,I 0,I 0,I 0,I r,J 0,J 0]) cQ));have bN:af (gN w w.heap.size #[I 4,I a7,I a',I aX,I a8,I cx,I bA,I r,ad pl l.length cl,ad pp s.len cp] #[U bx,U bO,I cb,I ex,I cm] #[I 4,I 0,I 0,I 0,I 0,I 0,I 0,I r,J 0,J 0] W):=by obtain⟨au,ax,aA,bb,ay⟩:=GO cP;exact⟨au,ax,aA,bb,ay⟩
 rw[cP];clear cP;obtain⟨g0,g1,g2,g3,g4,g5,g6,g7,g8,g9⟩:=dQ bN.out.bq;obtain⟨t0,t1,t2,t3,t4⟩:=uF bN.out.cz;have n0:=lt_of_heap bN.out.out;have dk:=na bN.out.out;obtain⟨⟨x,y⟩,hp⟩:∃p:b7,fI ⟨bx,bO,cb,(ex,cm)⟩ (a7,a')=p:=⟨_,rfl⟩;obtain⟨⟨u,v⟩,oc⟩:∃p:b7,fI ⟨bx,bO,cb,(ex,cm)⟩ (aX,a8)=p:=⟨_,rfl⟩;have bw:=ao hp;have kb:=ao oc;have oU:gU (a7,a')=true∧gU (aX,a8)=true:=by have:=((Ea a1.out).2.2.1 (show (4:Int)≠6 by decide)).1;simp[jS] at this;exact⟨this.1,this.2.1⟩
 have tp:=ao (vW oU.1);have se:=ao (vW oU.2);clear hp oc oU;go_upto_region 7 with fail;have gy:=ao (Sf (Se bN.out));clear g0 g1 g2 g3 g4 g5 g6 g7 g8 g9 t0 t1 t2 t3 t4 n0 dk
 go_region_held3 (fun Z=>sd w w.heap.size a7 a' aX a8 cx bA bx bO cb ex cm 4 r #[I 4,I a7,I a',I aX,I a8,I cx,I bA,I r,ad pl l.length cl,ad pp s.len cp] #[U bx,U bO,I cb,I ex,I cm] Z) (first|with_reducible exact gy.out|with_reducible exact NY (by assumption) (by assumption)|with_reducible exact Ee 1 (by decide) (by assumption)|with_reducible exact Ee 3 (by decide) (by assumption)|fail) (first|(go_at_call 206;with_reducible refine (rq ⟨bx,bO,cb,(ex,cm)⟩ a7 a' tp.out.1 tp.out.2 fj.out.1 fj.out.2 x y bw _).mono ?_;rintro e br ⟨rfl,dX⟩)|(go_at_call 206;with_reducible refine (rq ⟨bx,bO,cb,(ex,cm)⟩ aX a8 se.out.1 se.out.2 fj.out.1 fj.out.2 u v kb _).mono ?_;rintro e br ⟨rfl,dX⟩)|fail)
 rename_i Yv BU hHeld;have Ar:af (gN w w.heap.size #[I 4,I a7,I a',I aX,I a8,I cx,I bA,I r,ad pl l.length cl,ad pp s.len cp] #[U bx,U bO,I cb,I ex,I cm] #[I 4,I 0,I 0,I 0,I 0,I 0,I 0,I r,J 0,J 0] (br)):=ao (((bN.out.below (Below.refl _ _).drew).below BU).below dX);have p7:af (gN w w.heap.size #[I 4,I a7,I a',I aX,I a8,I cx,I bA,I r,ad pl l.length cl,ad pp s.len cp] #[U bx,U bO,I cb,I ex,I cm] #[I 4,I x,I 0,I 0,I 0,I 0,I 0,I r,J 0,J 0] ((br.setCell (aj (w.heap.size+1+1+1) 1) (I x)))):=ao (Ar.out.set 1 (I x));have tr:af (gN w w.heap.size #[I 4,I a7,I a',I aX,I a8,I cx,I bA,I r,ad pl l.length cl,ad pp s.len cp] #[U bx,U bO,I cb,I ex,I cm] #[I 4,I x,I y,I 0,I 0,I 0,I 0,I r,J 0,J 0] (((br.setCell (aj (w.heap.size+1+1+1) 1) (I x)).setCell (aj (w.heap.size+1+1+1) 2) (I y)))):=ao (p7.out.set 2 (I y));have oV:af (gN w w.heap.size #[I 4,I a7,I a',I aX,I a8,I cx,I bA,I r,ad pl l.length cl,ad pp s.len cp] #[U bx,U bO,I cb,I ex,I cm] #[I 4,I x,I y,I u,I 0,I 0,I 0,I r,J 0,J 0] ((((br.setCell (aj (w.heap.size+1+1+1) 1) (I x)).setCell (aj (w.heap.size+1+1+1) 2) (I y)).setCell (aj (w.heap.size+1+1+1) 3) (I u)))):=ao (tr.out.set 3 (I u));have tt:af (gN w w.heap.size #[I 4,I a7,I a',I aX,I a8,I cx,I bA,I r,ad pl l.length cl,ad pp s.len cp] #[U bx,U bO,I cb,I ex,I cm] #[I 4,I x,I y,I u,I v,I 0,I 0,I r,J 0,J 0] (((((br.setCell (aj (w.heap.size+1+1+1) 1) (I x)).setCell (aj (w.heap.size+1+1+1) 2) (I y)).setCell (aj (w.heap.size+1+1+1) 3) (I u)).setCell (aj (w.heap.size+1+1+1) 4) (I v)))):=ao (oV.out.set 4 (I v));have eo:=tt;clear Ar p7 tr oV tt;generalize (((br.setCell (aj (w.heap.size+1+1+1) 1) (I x)).setCell (aj (w.heap.size+1+1+1) 2) (I y)).setCell (aj (w.heap.size+1+1+1) 3) (I u)).setCell (aj (w.heap.size+1+1+1) 4) (I v)=bt at eo⊢;clear BU hHeld dX gy bN;go_upto_region 32 with fail;obtain⟨k4,ek,bV,gl,hI,jF,jG,nG,nH,mx⟩:=dQ eo.out.out;obtain⟨du,dI,h4,qC,qD,qE,qF,tq,xv,xw⟩:=dQ eo.out.res;have fr:=na eo.out.res;have eG:=lt_of_heap eo.out.res;go_wp2_with fail;change bodyPost _ _ _ _ _ (kp bt (w.heap.size+1+1) (I 4) (I x) (I y) (I u) (I v) (I 0) (I 0) (I r) (J 0) (J 0));have hF:=Ap (I 4) (I x) (I y) (I u) (I v) (I 0) (I 0) (I r) (J 0) (J 0) eo.out.res;have bz:=Aq (I 4) (I x) (I y) (I u) (I v) (I 0) (I 0) (I r) (J 0) (J 0) eo.out.aM (show w.heap.size≤w.heap.size+1+1 by omega);have hS:=dw.bare (fun k=>w.heap.size≤k) (kp bt (w.heap.size+1+1) (I 4) (I x) (I y) (I u) (I v) (I 0) (I 0) (I r) (J 0) (J 0)) none none ⟨4,(x,y),(u,v),(0,0),r,[]⟩ 0 0 rfl;generalize kp bt (w.heap.size+1+1) (I 4) (I x) (I y) (I u) (I v) (I 0) (I 0) (I r) (J 0) (J 0)=cZ at hF bz hS⊢;obtain⟨aV,aT,c2,c3,cD,c5,cX,c7,dj,bB⟩:=dQ hF;exact cL (v:=.agg #[I 4,I x,I y,I u,I v,I 0,I 0,I r,J 0,J 0]) (by simp[results,GL,go_sem,aV,aT,c2,c3,cD,c5,cX,c7,dj,bB]) rfl (.mk (by simp[pq,BI,fN,bw.out,kb.out]:_=(⟨⟨4,(x,y),(u,v),(0,0),r,[]⟩,.nil⟩:dq)) none 0 none 0 rfl hS bz)
end c1
