/- Lemmas. -/
import Derived.Deep.Draws
import Derived.Shelf.Bytes.SlSmallAll
import Derived.Laws.BytesArg
import Derived.Laws.IdiomStrings
import Derived.Laws.CopyRow
import Derived.Test.YtkaiaijcieaofaaGreatDoorQ7
import Derived.Lib.FrozenHead
import Derived.Lib.Replace
import Derived.Lib.IndexBytes
set_option linter.all false
set_option maxRecDepth 100000
set_option maxHeartbeats 800000
namespace Go.Proofs.YtkaiaijcieaofaaGreatDoor
abbrev S3:=@Nat.lt_or_ge
abbrev Cd:=@cell_of_row
abbrev S4:=@Array.toList_setIfInBounds
abbrev OA:=@List.length_set
abbrev S5:=@List.take_set
abbrev wz:=@wpList_append_own
abbrev nj:=@Lib.toList_data
abbrev Ce:=@List.drop_succ_cons
abbrev S6:=@Bool.false_or
abbrev S7:=@Lib.replaceK_hit
abbrev Ey:=@List.getElem?_append_left
abbrev Ez:=@List.getElem_append_left
namespace Mem
open Go.RowKit
def num(l:ar):List Int:=l.map fun c=>(c.toNat:Int)
def su(l:ar):List Value:=l.map fun c=>Value.int .u8 (c.toNat:Int)
theorem aiR(l:ar):(num l).length=l.length:=by simp[num]
theorem aiS(l:ar):(su l).length=l.length:=by simp[su]
theorem aiU(a b:ar):su (a++b)=su a++su b:=by simp[su]
theorem aiV(l:ar):Lib.bytesOf (num l)=l:=by
 unfold Lib.bytesOf num;rw[List.map_map]
 conv=>rhs;rw[←List.map_id l]
 apply List.map_congr_left;intro c _;simp
theorem aiW(l:ar):strOfNums (num l)=⟨l.toArray⟩:=by unfold strOfNums;have h:=aiV l;unfold Lib.bytesOf at h;rw[h]
theorem S8(l:ar)(i:Nat)(h:i<l.length):(num l).getD i 0=(l[i].toNat:Int):=by simp[num,List.getD,h]
theorem ZA(l:ar)(i:Nat)(h:i<l.length):(su l)[i]?=some (.int .u8 (l[i].toNat:Int)):=by simp[su,h]
def jL(w:aeo)(p:Ja)(l:ar):Prop:=Lib.BytesIn w p l.length (num l)
theorem jL.nil(w:aeo)(p:Ja):jL w p []:=Lib.BytesIn.nil w p _
theorem Cf{w:aeo}{a:Addr}{u:ada}(h:w.cell? a=some u):a.block<w.heap.size:=by
 rcases S3 a.block w.heap.size with eQ|eQ
 ·exact eQ
 ·simp[World.cell?,Aj eQ] at h
variable{b o B g cap:Nat}{l:ar}
theorem jL.cell{w:aeo}(h:jL w (some (aj b o)) l)(i:Nat)(hi:i<l.length):ak w b (o+i) (.int .u8 (l[i].toNat:Int)):=by obtain⟨b1,v8,e,aB⟩:=h.at (by omega);injection e with e;injection e with aY a6 _;subst aY;subst a6;rw[aB i hi,S8 l i hi]
variable{p:Ja}
theorem jL.addr{w:aeo}(h:jL w p l)(az:0<l.length):∃b o,p=some ⟨b,o,none⟩:=by obtain⟨b,o,e,_⟩:=h.at az;exact⟨b,o,e⟩
theorem jL.of{w:aeo}(h:∀i (hi:i<l.length),ak w b (o+i) (.int .u8 (l[i].toNat:Int))):jL w (some (aj b o)) l:=
 fun _=>⟨b,o,rfl,fun i hi=>by rw[h i hi,S8 l i hi]⟩
theorem jL.lt{w:aeo}(h:jL w (some (aj b o)) l)(az:0<l.length):b<w.heap.size:=Cf (h.cell 0 az)
theorem jL.keep{w w':aeo}(h:jL w p l)(aw:∀a:Addr,(∃u,w.cell? a=some u)→w'.cell? a=w.cell? a):jL w' p l:=by intro az;obtain⟨b,o,rfl,aB⟩:=h.at az;exact⟨b,o,rfl,fun i hi=>by rw[aw _ ⟨_,aB i hi⟩];exact aB i hi⟩
theorem jL.below{w w':aeo}(h:jL w p l)(ay:an w w w'):jL w' p l:=
 h.keep fun a ⟨_,ha⟩=>ay.cell (p:=a) (Cf ha)
theorem jL.take{w:aeo}{p:Ja}{l:ar}(h:jL w p l)(k:Nat):jL w p (l.take k):=by
 intro az;have rA:0<l.length:=by simp at az;omega
 obtain⟨b,o,rfl⟩:=h.addr rA;refine⟨b,o,rfl,fun i hi=>?_⟩;rw[S8 _ i hi];have Js:i<l.length:=by simp at hi;omega
 rw[h.cell i Js];simp
theorem jL.drop{w:aeo}{b o:Nat}{l:ar}(h:jL w (some (aj b o)) l)(k:Nat):jL w (some (aj b (o+k))) (l.drop k):=by
 refine jL.of fun i hi=>?_;have Js:k+i<l.length:=by simp at hi;omega
 rw[vZ,h.cell (k+i) Js];simp
theorem jL.str{P:Program}{w:aeo}(h:jL w p l)(src e dst:aai)(hs:P.underlying src=some (.slice e))(he:P.underlying e=some (.int .u8))(hd:P.underlying dst=some .string)(n c:Nat)(hn:n=l.length):
  (convert src dst (ad p n c)).run P w=.ok (aa ⟨l.toArray⟩) w:=by
 subst hn;rcases w4 l.length with aF|aF
 ·obtain rfl:l=[]:=lP aF;exact Go.Proofs.run_convert_bytes_zero w src e hs he p c dst hd
 ·obtain⟨b,o,rfl,aB⟩:=h.at aF;rw[run_convert_bytes_arg w src e hs he b o l.length c (num l) (aiR l) aB dst hd,aiW]
def Own(w:aeo)(B:Nat)(e:aai)(g cap:Nat)(l:ar):Prop:=
 ∃cur dk,B≤g∧w.heap[g]?=some (.cells cur e dk)∧(dk.2=0∨cap≤dk.1)∧l.length≤cap∧cap≤maxLen∧cur.size=cap∧cur.toList.take l.length=su l
variable{e:aai}
theorem Own.lt{w:aeo}(h:Own w B e g cap l):g<w.heap.size:=by obtain⟨_,_,_,aI,_⟩:=h;exact (Array.getElem?_eq_some_iff.1 aI).1
theorem Own.ge{w:aeo}(h:Own w B e g cap l):B≤g:=by obtain⟨_,_,ay,_⟩:=h;exact ay
theorem Own.reads{w:aeo}(h:Own w B e g cap l):jL w (some (aj g 0)) l:=by obtain⟨cur,dk,_,aI,_,_,_,_,bc⟩:=h;refine jL.of fun i hi=>?_;rw[jt,Cd w g i cur e dk aI];have:=ZA l i hi;rw[←bc,ra,aW hi] at this;simpa using this
theorem Own.below{w w':aeo}(h:Own w B e g cap l)(ay:an w w w'):Own w' B e g cap l:=by have az:=h.lt;obtain⟨cur,dk,au,aI,ax⟩:=h;exact⟨cur,dk,au,(ay.block g az).trans aI,ax⟩
theorem Own.set{w:aeo}{B g cap:Nat}{e:aai}{l:ar}(h:Own w B e g cap l)(i:Nat)(x:UInt8):Own (w.setCell (aj g i) (.int .u8 (x.toNat:Int))) B e g cap (l.set i x):=by
 obtain⟨cur,dk,ay,aI,nd,y5,nO,eD,bc⟩:=h;refine⟨cur.setIfInBounds i (.int .u8 (x.toNat:Int)),dk,ay,?_,nd,by simpa using y5,nO,by simpa using eD,?_⟩
 ·show (Array.modify _ _ _)[g]?=_;rw[vU,aW rfl,aI];rfl
 ·rw[S4,OA,S5,bc];unfold su;rw[List.map_set]
theorem Own.mono{w:aeo}{Ev:Nat}(h:Own w B e g cap l)(bz:Ev≤B):Own w Ev e g cap l:=by obtain⟨cur,dk,au,ax⟩:=h;exact⟨cur,dk,by omega,ax⟩
section
variable{P:Program}
end
end Mem
namespace hL
open Go.RowKit ga gI ph Mem
theorem sw{k:IntKind}{a b:Int}(h:a=b):Ending.returned (.int k a)=ab (.int k b):=by rw[h]
def e'(l:List (Int×Int)):List Value:=l.flatMap fun o=>[I o.1,I o.2]
theorem OB(a b:List (Int×Int)):e' (a++b)=e' a++e' b:=by simp[e']
theorem Hf(l:List (Int×Int)):(e' l).length=l.length *2:=by
 induction l with
 |nil=>rfl
 |cons o l cU=>unfold e' at cU⊢;rw[List.flatMap_cons,fH,cU];simp;omega
abbrev OC(S:Ua)(at_ deep:Int)(v:ada)(e:Int):Obj:=.cells #[aa S,I at_,I deep,v,I e] 287
structure h8(w0:aeo)(S:Ua)(R:Nat)(deep:Nat)(st:ds)(k:Nat)(v:ada)(w:aeo):Prop where
 uZ:k≤S.size
 rest:S.data.toList.drop k=st.r
 obj:w.heap[R]?=some (OC S (k:Int) (deep:Int) v (st.e:Int))
 own:w.ownsRow w0.heap.size 313 2 v st.ops.length (e' st.ops)
 aM:an w0 w0 w
 ge:w0.heap.size≤R
def qS(w0:aeo)(S:Ua)(R:Nat)(deep:Nat)(st:ds)(w:aeo):Prop:=∃k v,h8 w0 S R deep st k v w
section
variable{w0 w w':aeo}{S:Ua}{R deep k:Nat}{st:ds}{v:ada}
theorem h8.cells(h:h8 w0 S R deep st k v w):ak w R 0 (aa S)∧ak w R 1 (I (k:Int))∧ak w R 2 (I (deep:Int))∧ak w R 3 v∧ak w R 4 (I (st.e:Int)):=by have au:=h.obj;refine⟨?_,?_,?_,?_,?_⟩<;>simp[World.cell?,au]
theorem h8.any(h:h8 w0 S R deep st k v w):qS w0 S R deep st w:=⟨k,v,h⟩
theorem h8.frozen(h:h8 w0 S R deep st k v w)(o:Nat):w.frozen? ⟨R,o,none⟩=false:=by have au:=h.obj;simp[World.frozen?,au]
theorem h8.len(h:h8 w0 S R deep st k v w):k+st.r.length=S.size:=by have au:=fS List.length h.rest;rw[e8,ch] at au;have:=h.uZ;omega
theorem h8.lt(h:h8 w0 S R deep st k v w):R<w.heap.size:=(Array.getElem?_eq_some_iff.1 h.obj).1
theorem h8.ne(h:h8 w0 S R deep st k v w):v.ownBlock≠some R:=by
 rcases h.own.2 with ⟨rfl,_⟩|⟨g,cap,cur,rfl,_,aE,_⟩
 ·simp[Value.ownBlock]
 ·intro he;have:g=R:=(by simpa[Value.ownBlock] using he);subst this;rw[h.obj] at aE;injection aE with aE;injection aE with _ bc;exact absurd bc (by decide)
theorem h8.drewN(h:h8 w0 S R deep st k v w)(n:Nat):h8 w0 S R deep st k v (w.drewN n):=
 ⟨h.uZ,h.rest,h.obj,⟨h.own.1,h.own.2⟩,below_drewN h.aM n,h.ge⟩
theorem h8.below(h:h8 w0 S R deep st k v w)(ay:an w w w'):h8 w0 S R deep st k v w':=
 ⟨h.uZ,h.rest,(ay.block R h.lt).trans h.obj,h.own.kept (row:=none) ⟨ay.os,ay.tape,ay.output,ay.size,fun k aw _=>ay.block k aw⟩ (by cases v.ownBlock<;>simp),h.aM.trans (ay.mono h.aM.size),h.ge⟩
theorem ke{x:aeo}{b:Nat}{c:ajv}{t:aai}(h:al x b c t)(o:Nat)(u:ada):(x.setCell (aj b o) u).heap[b]?=some (.cells (c.setIfInBounds o u) t):=by show (Array.modify _ _ _)[b]?=_;rw[vU,aW rfl,h];rfl
theorem Hg{x:aeo}{base:Nat}{e:aai}{size n:Nat}{v:ada}{xs:aev}(h:x.ownsRow base e size v n xs){a:Addr}(ha:v.ownBlock≠some a.block)(u:ada):(x.setCell a u).ownsRow base e size v n xs:=
 h.kept (w':=x.setCell a u) (row:=some a.block) ⟨rfl,rfl,rfl,by simp[World.setCell],fun k aw hne=>hC _ _ _ _ (fun e=>hne (by rw[e]))⟩ (.inr ha)
theorem h8.step(h:h8 w0 S R deep st k v w){r:ar}{m:Nat}(hm:m≤S.size)(hr:S.data.toList.drop m=r):h8 w0 S R deep ⟨r,st.ops,st.e⟩ m v (w.setCell (aj R 1) (I (m:Int))):=
 ⟨hm,hr,by rw[ke h.obj];rfl,Hg h.own h.ne _,h.aM.setCell h.ge _,h.ge⟩
theorem h8.err(h:h8 w0 S R deep st k v w)(e:Nat):h8 w0 S R deep ⟨st.r,st.ops,e⟩ k v (w.setCell (aj R 4) (I (e:Int))):=
 ⟨h.uZ,h.rest,by rw[ke h.obj];rfl,Hg h.own h.ne _,h.aM.setCell h.ge _,h.ge⟩
theorem h8.OD(h:h8 w0 S R deep st k v w)(m:Nat):h8 w0 S R m st k v (w.setCell (aj R 2) (I (m:Int))):=
 ⟨h.uZ,h.rest,by rw[ke h.obj];rfl,Hg h.own h.ne _,h.aM.setCell h.ge _,h.ge⟩
end
theorem S9(w:aeo)(a b:Nat):(w.drewN a).drewN b=w.drewN (a+b):=by simp[World.drewN,vZ]
def u'(r:ar):Int:=((hd r).toNat:Int)
def aiX(c:Int)(w:aeo)(e:Ending)(w':aeo):Prop:=∃n,e=ab (.int .u8 c)∧w'=w.drewN n
variable{w0:aeo}{S:Ua}{R deep:Nat}{st:ds}{v:ada}
theorem mF{k:Nat}(w:aeo)(h:af (h8 w0 S R deep st k v w))(c:Int)(aB:af (u' st.r=c)):
  Calls Tryz.prog 214 #[ah R 0] w (aiX c w):=by
 obtain⟨aV,aT,c2,c3,cD⟩:=h.out.cells;have aw:=h.out.uZ;by_cases bm:k<S.size
 ·obtain⟨X,b2⟩:=aq (S[k].toNat:Int);have S':af (X=c):=(by show X=c;rw[←aB.out,←b2];unfold u';have az:k<S.data.toList.length:=(by rw[ch];exact bm);have au:=rZ az;rw[h.out.rest] at au;rw[au];rfl);go_enter Tryz.func214,Tryz.ntmps214;go_wp2_with fail
  go_quiet (fail)
  go_wp2_with fail
  go_quiet (fail)
  go_wp2_with fail;go_ret;exact⟨_,sw S'.out,S9 _ _ _⟩
 ·have S':af ((0:Int)=c):=(by show 0=c;rw[←aB.out];have au:=h.out.rest;rw[Ac (by rw[ch];omega)] at au;rw[←au];rfl);go_enter Tryz.func214,Tryz.ntmps214;go_wp2_with fail
  go_quiet (fail)
  go_wp2_with fail;go_ret;exact⟨_,sw S'.out,rfl⟩
def Left(w0:aeo)(S:Ua)(R deep:Nat)(st:ds)(e:Ending)(w':aeo):Prop:=e=ab (.tuple #[])∧qS w0 S R deep st w'
theorem aiY:(Tryz.prog.info? 313).map (fun i=>(i.zero,i.size,i.bytes))=some (some (.agg #[I 0,I 0]),2,16):=by kernel_rfl
theorem aiZ{x:aeo}{base:Nat}{e:aai}{size n:Nat}{xs:aev}(h:x.ownsRow base e size v n xs):∀k,v.ownBlock=some k→base≤k:=fun k aw=>(World.ownsRowF.lt (World.ownsRowF_of h) k aw).1
theorem h8.appended{w w':aeo}{k:Nat}{v':ada}{q n:Int}{o:Obj}(h:h8 w0 S R deep st k v w)(aI:(w.alloc o).grownBy w' v.ownBlock)(a1:w'.ownsRow w0.heap.size 313 2 v' (st.ops.length+1) (e' st.ops++[I q,I n]))(bP:st.e=0):
  h8 w0 S R deep (put st q n) k v' (w'.setCell (aj R 3) v')∧ak w' R 3 v∧w'.frozen? ⟨R,3,none⟩=false∧w'.heap[R]?=some (OC S (k:Int) (deep:Int) v (st.e:Int)):=by
 have hR:w'.heap[R]?=some (OC S (k:Int) (deep:Int) v (st.e:Int)):=by rw[aI.block R (by have:=h.lt;simp;omega) (eN h.ne),qL _ _ _ h.lt,h.obj]
 have hp:put st q n=⟨st.r,st.ops++[(q,n)],0⟩:=by unfold put;rw[aW bP]
 refine⟨?_,by simp[World.cell?,hR],by simp[World.frozen?,hR],hR⟩;rw[hp];refine⟨h.uZ,h.rest,by rw[ke hR,bP];rfl,?_,?_,h.ge⟩
 ·have hne:v'.ownBlock≠some R:=by
   rcases a1.2 with ⟨rfl,_⟩|⟨g,cap,cur,rfl,_,aE,_⟩
   ·simp[Value.ownBlock]
   ·intro he;have:g=R:=(by simpa[Value.ownBlock] using he);subst this;rw[hR] at aE;injection aE with aE;injection aE with _ bc;exact absurd bc (by decide)
  have hx:=Hg a1 (a:=⟨R,3,none⟩) hne v';rw[show (st.ops++[(q,n)]).length=st.ops.length+1 by simp,OB];exact hx
 ·exact ((h.aM.alloc h.aM.size o).grown aI (cd h.aM.size (by simp)) (aiZ h.own)).setCell h.ge _
theorem xH(w:aeo)(h:qS w0 S R deep st w)(az:st.ops.length≤1000)(q n:Int):
  Calls Tryz.prog 215 #[ah R 0,I q,I n] w (Left w0 S R deep (put st q n)):=by
 obtain⟨k,v,h⟩:=h;have H:=ao h;obtain⟨aV,aT,c2,c3,cD⟩:=h.cells;obtain⟨i0,hi,cW,dv,dx⟩:=info_parts aiY;have bL:=ao (And.intro hi (And.intro cW (And.intro dv dx)));clear h hi cW dv dx;by_cases bP:st.e=0
 ·have ai0:((st.e:Int)==0)=true:=(by rw[bP];rfl);have aU:=ao bP;clear bP;go_enter Tryz.func215,Tryz.ntmps215;go_wp2_with (at_builtin;refine wz _ rfl _ _ _ rfl w0.heap.size 313 i0 (.agg #[I 0,I 0]) 2 16 Tryz.underlying262 bL.out.1 bL.out.2.1 bL.out.2.2.1 bL.out.2.2.2 rfl (by omega) v st.ops.length (e' st.ops) (by rfl) (H.out.own.alloc _) (aj w.heap.size 0) 1 1 [I q,I n] (by rfl) rfl (jx (dL w _)) (by simp[Value.oneCell']) (by unfold maxLen;omega) (by omega) (by have:=H.out.aM.size;simp;omega) ?_;intro v' w' gr h9 om;obtain⟨mG,k7,rfl,_,_⟩:=gr.form (by omega);obtain⟨qf,rb,auN,_⟩:=H.out.appended h9 gr aU.out;have lY:=ao qf;clear qf gr h9 om);go_end0;exact⟨rfl,k,_,lY.out⟩
 ·have ai0:((st.e:Int)==0)=false:=(by simp;omega);have hp:af (put st q n=st):=(by show _=_;unfold put;rw[aN bP]);clear bP;go_enter Tryz.func215,Tryz.ntmps215;go_wp2_with fail;go_end0;exact⟨rfl,by rw[hp.out];exact⟨k,v,H.out⟩⟩
end hL
namespace jz
open Go.RowKit ga
theorem oo(s:Ua)(k:Nat)(h:k<s.size):s.data.toList[k]'(by simpa using h)=s[k]:=by rw[Array.getElem_toList];rfl
theorem OE(s:Ua)(k:Nat)(h:k<s.size):s.data.toList.take (k+1)=s.data.toList.take k++[s[k]]:=by rw[AB (by simpa using h)];rfl
theorem ai1(s:Ua)(w:aeo)(hs:s.size≤maxLen):
  Calls Tryz.prog 153 #[aa s] w fun e w'=>e=ab (.tuple #[I (val (s.data.toList.take (min 6 (bK s.data.toList)))),I (min 6 (bK s.data.toList):Nat)])∧w=w':=by
 unfold maxLen at hs;go_enter Tryz.func153,Tryz.ntmps153;go_wp2
 go_loop [4,5] (fun v i=>∃k:Nat,k≤min 6 (bK s.data.toList)∧i=I k∧v=I (val (s.data.toList.take k))) (fun _ i=>s.size -(intOf i).toNat)
 case atStart=>exact⟨0,cO _,rfl,rfl⟩
 case round=>
  obtain⟨k,aw,rfl,rfl⟩:=hrel;have az:=r1 s.data.toList;have fw:s.data.toList.length=s.size:=(by simp);have qy:k≤6:=(by omega);have la:k≤bK s.data.toList:=(by omega);have tI:=DK s.data.toList k la;have aS:val (s.data.toList.take k)<1000000:=hN tI (by have:=vK (n:=10) (by decide) qy;simpa using this);by_cases bm:k<s.size
  ·by_cases b8:k<6
   ·by_cases hd:48≤s[k].toNat∧s[k].toNat≤57
    ·have bH:af (val (s.data.toList.take (k+1))=val (s.data.toList.take k) *10+(s[k].toNat-48)):=(by rw[OE s k bm];exact Nl _ _);have hn:k<bK s.data.toList:=No la (by omega) (by rw[oo s k bm];exact (sZ _).2 hd);obtain⟨gL,hE⟩:=hd;clear tI fw;go_wp2;go_round
     case rel=>exact⟨k+1,by omega,by go_num,by rw[bH.out];go_num⟩
     case measure=>simp[intOf];omega
    ·have hn:bK s.data.toList=k:=Jq la (by omega) (by rw[oo s k bm];exact (Jp _).2 (by omega));have bd:af (min 6 (bK s.data.toList)=k):=(by show _=_;omega);clear tI fw hn az aw la;go_wp2;all_goals (go_ret2;rw[bd.out];exact⟨rfl,rfl⟩)
   ·have bd:af (min 6 (bK s.data.toList)=k):=(by show _=_;omega);clear tI fw az aw la;go_wp2;go_ret2;rw[bd.out];exact⟨rfl,rfl⟩
  ·have bd:af (min 6 (bK s.data.toList)=k):=(by show _=_;omega);clear tI fw az aw la;go_wp2;go_ret2;rw[bd.out];exact⟨rfl,rfl⟩
theorem Hh(n:Int)(w:aeo):Calls Tryz.prog 165 #[I n] w fun e w'=>e=ab (U (r2 n))∧w=w':=by
 go_enter Tryz.func165,Tryz.ntmps165;by_cases au:-1000000000000<n
 ·by_cases ax:n<1000000000000
  ·have ay:r2 n=true:=(by simp[r2,au,ax]);go_wp2;go_ret;rw[ay];exact⟨rfl,rfl⟩
  ·have ay:r2 n=false:=(by simp[r2,ax]);have aH:=ao ay;clear ay;go_wp2;go_ret;rw[aH.out];exact⟨rfl,rfl⟩
 ·have ay:r2 n=false:=(by simp[r2,au]);have aH:=ao ay;clear ay;go_wp2;go_ret;rw[aH.out];exact⟨rfl,rfl⟩
theorem OF(n:Nat):((n:Int)==45)=decide (n=45):=by rw[yN];simp;omega
theorem Kl(s:Ua)(l:ar)(az:af (s.data.toList=l))(w:aeo)(hs:s.size≤9223372036854775807)(k:Nat)(aw:af (k=min 6 (bK l)))(v:Nat)(aS:af (v=val (l.take k))):
  Calls Tryz.prog 153 #[aa s] w fun e w'=>e=ab (.tuple #[I v,I k])∧w=w':=by
 have aF:=az.out;have au:=aw.out;have ax:=aS.out;subst aF;subst au;subst ax;exact ai1 s w hs
def y7(l:ar):Bool:=match l with|[]=>false|c::_=>decide (c.toNat=43)|| decide (c.toNat=45)
theorem AF(s:Ua)(h:0<s.size):s.data.toList=s[0]::s.data.toList.drop 1:=by have:=oo s 0 h;rw[←this];exact (rZ (i:=0) (l:=s.data.toList) (show 0<s.data.toList.length by simpa using h))
theorem Ta(s:Ua)(h:¬0<s.size):s.data.toList=[]:=by
 apply lP;have:s.data.toList.length=s.size:=by simp
 omega
theorem Tb(s:Ua)(h:0<s.size):y7 s.data.toList=(decide (s[0].toNat=43)|| decide (s[0].toNat=45)):=by rw[AF s h];rfl
theorem Tc(s:Ua)(h:¬0<s.size):y7 s.data.toList=false:=by rw[Ta s h];rfl
theorem ZB(s:Ua):(s.extract 1 s.size).data.toList=s.data.toList.drop 1:=by rw[AE];exact sY (by simp)
theorem ai2(s:Ua)(k:Nat):(s.extract k s.size).data.toList=s.data.toList.drop k:=by rw[AE];exact sY (by simp)
theorem ZC{l:ar}(h:y7 l=false):strip l=(false,l):=by
 cases l with
 |nil=>rfl
 |cons c r=>
  simp[y7] at h;simp[strip,h]
theorem ZD(s:Ua)(h:0<s.size)(hs:y7 s.data.toList=true):strip s.data.toList=(decide (s[0].toNat=45),s.data.toList.drop 1):=by
 rw[Tb s h] at hs;rw[AF s h];simp only[strip];split
 ·rename_i au;simp[au]
 ·rename_i au;simp[au] at hs;simp[hs]
theorem ZE{s:Ua}(h:y7 s.data.toList=true):0<s.size:=by apply vJ;intro hn;rw[Tc s hn] at h;cases h
theorem Hi(s:Ua)(w:aeo)(hs:s.size≤maxLen):
  Calls Tryz.prog 112 #[aa s] w fun e w'=>e=ab (.tuple #[I ((dec s.data.toList).getD 0),U (dec s.data.toList).isSome])∧w=w':=by
 unfold maxLen at hs;go_enter Tryz.func112,Tryz.ntmps112;go_upto_region 2 with fail;go_cut [21] (fun c cq=>c=U (y7 s.data.toList)∧w=cq)
 case first=>
  by_cases aF:0<s.size
  ·have aH:=ao (Tb s aF);have hne:s.toList.isEmpty=false:=(by rw[nj,AF s aF];rfl);have Gk:¬s.toList=[]:=(by intro h;rw[h] at hne;cases hne);by_cases Cg:s[0].toNat=43
   all_goals
    go_wp2;go_meet;refine⟨fS Value.bool ?_,rfl⟩;rw[aH.out];simp[Cg,OF];try omega
  ·have aH:=ao (Tc s aF);have hne:s.toList=[]:=(by rw[nj];exact Ta s aF);go_wp2;go_meet;exact⟨fS Value.bool aH.out.symm,rfl⟩
 case rest=>
  obtain⟨rfl,rfl⟩:=hcut;go_upto_if 21 with fail;go_cut [0,4] (fun a b cq=>∃t:Ua,a=aa t∧t.size≤9223372036854775807∧t.data.toList=(strip s.data.toList).2∧b=U (strip s.data.toList).1∧w=cq)
  case first=>
   cases aI:y7 s.data.toList with
   |true=>
    have aF:=ZE aI;have bH:=ao (ZD s aF aI);clear aI;go_wp2;go_meet;rw[bH.out];exact⟨_,rfl,by simp;omega,ZB s,fS Value.bool (OF _),rfl⟩
   |false=>
    have bH:=ao (ZC aI);clear aI;go_wp2;go_meet;rw[bH.out];exact⟨_,rfl,hs,rfl,rfl,rfl⟩
  case rest=>
   obtain⟨t,rfl,bc,az,rfl,rfl⟩:=hcut;obtain⟨l,rA⟩:=aq t.data.toList;obtain⟨k,aw⟩:∃k,k=min 6 (bK l):=⟨_,rfl⟩;obtain⟨v,aS⟩:∃v,v=val (l.take k):=⟨_,rfl⟩;have mH:v<1000000:=(by rw[aS];exact hN (DK l k (by omega)) (by have:=vK (n:=10) (by decide) (show k≤6 by omega);simpa using this));have hlen:l.length=t.size:=(by rw[←rA];simp);have auO:k≤t.size:=(by have:=r1 l;omega);have xI:(t.extract k t.size).data.toList=l.drop k:=(by rw[ai2,rA]);have DM:dec s.data.toList=(oa l).map fun n=>if (strip s.data.toList).1 then -(n:Int) else n:=by unfold dec;rw[←az,rA]
   have ei:=ao rA;have en:=ao aw;have cM:=ao aS;generalize (strip s.data.toList).1=b at DM⊢;have b9:=ao DM;clear az rA aS DM hlen;rcases hr:l.drop k with _|⟨c,r⟩
   ·have he:(t.extract k t.size).toList=[]:=(by rw[nj,xI,hr]);have hA:=ag7 aw hr;by_cases aF:k=0
    ·rw[aW aF] at hA;have cJ:=ao hA;have jY:((k:Int)==0)=true:=(by simp[aF]);clear hA aF xI hr aw;go_wp2_with fail;refine (Kl t l ei _ bc k en v cM).mono ?_;rintro e w' ⟨rfl,rfl⟩;go_wp2_with fail;go_ret2;rw[b9.out,cJ.out];exact⟨rfl,rfl⟩
    ·rw[aN aF] at hA;have cJ:=ao hA;have jY:((k:Int)==0)=false:=(by simp[aF]);clear hA aF xI hr aw;cases b
     all_goals
      go_wp2_with fail;refine (Kl t l ei _ bc k en v cM).mono ?_;rintro e w' ⟨rfl,rfl⟩;go_wp2_with fail;go_ret2;rw[b9.out,cJ.out,←cM.out];exact⟨rfl,rfl⟩
   ·have wA:0<t.size-k:=(by have:(t.extract k t.size).data.toList.length=t.size-k:=(by simp);rw[xI,hr] at this;simp at this;omega);have hne:(t.extract k t.size).toList.isEmpty=false:=(by rw[nj,xI,hr];rfl);have Gk:¬(t.extract k t.size).toList=[]:=(by intro h;rw[h] at hne;cases hne);have fw:0<(t.extract k t.size).size:=(by simpa using wA);have aB:(t.extract k t.size)[0]=c:=(by have:=AF _ fw;rw[xI,hr] at this;injection this with a b;exact a.symm);by_cases kj:c.toNat=46
    ·obtain⟨m,hm⟩:∃m,m=min 6 (bK r):=⟨_,rfl⟩;obtain⟨d,hd⟩:∃d,d=val (r.take m):=⟨_,rfl⟩;have b4:=aha aw hr kj hm;have wB:d<10^m:=(by rw[hd];exact DK r m (by omega));have ai3:(((t.extract k t.size)[0].toNat:Int)==46)=true:=(by rw[aB];simp;omega);have ai4:m≤6:=(by omega);have qy:k≤6:=(by omega);have DZ:r.length+1=t.size-k:=(by have:(t.extract k t.size).data.toList.length=t.size-k:=(by simp);rw[xI,hr] at this;simpa using this);have ks:m≤r.length:=(by have:=r1 r;omega);have hR:((t.extract k t.size).extract 1 (t.size-k)).data.toList=r:=(by rw[AE,xI,hr];exact sY (by simp;omega));have iZ:((t.extract k t.size).extract (1+m) (t.size-k)).data.toList=r.drop m:=(by rw[AE,xI,hr,JL 1 m,Ce];exact sY (by simp;omega));have yS:m+1≤t.size-k:=(by omega);have bN:=ao hm;have ZF:=ao hd;have rB:=ao b4;have aQ:=ao hR;have dC:=ao iZ;clear hm hd b4 aw aB kj hR iZ DZ xI hr;go_wp2_with fail;refine (Kl t l ei _ bc k en v cM).mono ?_;rintro e w' ⟨rfl,rfl⟩;go_wp2_with fail;refine (Kl _ r aQ _ (by simp;omega) m bN d ZF).mono ?_;rintro e w' ⟨rfl,rfl⟩;go_wp2_with fail
     go_loop [7,9] (fun y i=>∃j x:Nat,m≤j∧j≤6∧x=d *10 ^(j-m)∧i=I j∧y=I x) (fun _ i=>(6-intOf i).toNat)
     case atStart=>exact⟨m,d,aP _,ai4,by simp,rfl,rfl⟩
     case round=>
      obtain⟨j,x,ai5,ZG,hx,rfl,rfl⟩:=hrel;have ZH:x<1000000:=(by rw[hx];have au:d *10 ^(j-m)<10^m *10 ^(j-m):=Jl wB (Jm (by decide));rw[←Jn,show m+(j-m)=j by omega] at au;exact hN au (by have:=vK (n:=10) (by decide) ZG;simpa using this));have cK:=ao hx;clear hx;by_cases b6:j<6
      ·go_wp2_with fail;go_round
       case rel=>exact⟨j+1,x *10,by omega,by omega,by rw[cK.out,show j+1-m=j-m+1 by omega,Ng,Nat.mul_assoc],by go_num,by go_num⟩
       case measure=>simp[intOf];omega
      ·have ai6:af (j=6):=(by show _=_;omega);by_cases bP:r.drop m=[]
       ·have uI:((t.extract k t.size).extract (1+m) (t.size-k)).toList=[]:=(by rw[nj,dC.out,bP]);by_cases aF:k+m=0
        ·have hk:oa l=none:=(by rw[rB.out,aN (fun h=>h.2 aF)]);have bd:=ao hk;have jY:((k:Int)+(m:Int)==0)=true:=(by simp;omega);clear hk bP aF;go_wp2_with fail;go_ret2;rw[b9.out,bd.out];exact⟨rfl,rfl⟩
        ·have hk:oa l=some (v *1000000+x):=(by rw[rB.out,aW ⟨bP,aF⟩,cK.out,ZF.out,cM.out,ai6.out]);have bd:=ao hk;have jY:((k:Int)+(m:Int)==0)=false:=(by simp;omega);clear hk bP aF;cases b
         all_goals
          go_wp2_with fail;go_ret2;rw[b9.out,bd.out];exact⟨by simp,rfl⟩
       ·have uI:((t.extract k t.size).extract (1+m) (t.size-k)).toList.isEmpty=false:=by
         rw[nj,dC.out];cases h:r.drop m with
         |nil=>exact absurd h bP
         |cons _ _=>rfl
        have hk:oa l=none:=(by rw[rB.out,aN (fun h=>bP h.1)]);have bd:=ao hk;clear hk bP;go_wp2_with fail;go_ret2;rw[b9.out,bd.out];exact⟨rfl,rfl⟩
    ·have bz:=ag9 aw hr kj;have aH:=ao bz;have ai3:(((t.extract k t.size)[0].toNat:Int)==46)=false:=(by rw[aB];simp;omega);clear bz xI hr aw aB kj;go_wp2_with fail;refine (Kl t l ei _ bc k en v cM).mono ?_;rintro e w' ⟨rfl,rfl⟩;go_wp2_with fail;go_ret2;rw[b9.out,aH.out];exact⟨rfl,rfl⟩
end jz
namespace jz
open Go.RowKit ga gI
end jz
namespace iL
open Go
theorem ZI(n:Int):bits .and .i64 n 1=n%2:=by
 have hm:(BitVec.ofInt 64 1).toNat=2^1-1:=by decide
 have key:(BitVec.ofInt 64 n&&&BitVec.ofInt 64 1).toNat=(n%((2^64:Nat):Int)).toNat%2^1:=by rw[Ag,Ah,hm,Ai]
 show ae ((BitVec.ofInt 64 n&&&BitVec.ofInt 64 1).toNat:Nat)=n%2;rw[key,nE];omega
theorem EA(n:Int):bits .and .i64 n 3=n%4:=by
 have hm:(BitVec.ofInt 64 3).toNat=2^2-1:=by decide
 have key:(BitVec.ofInt 64 n&&&BitVec.ofInt 64 3).toNat=(n%((2^64:Nat):Int)).toNat%2^2:=by rw[Ag,Ah,hm,Ai]
 show ae ((BitVec.ofInt 64 n&&&BitVec.ofInt 64 3).toNat:Nat)=n%4;rw[key,nE];omega
theorem Hj(n:Int):bits .and .i64 n 7=n%8:=by
 have hm:(BitVec.ofInt 64 7).toNat=2^3-1:=by decide
 have key:(BitVec.ofInt 64 n&&&BitVec.ofInt 64 7).toNat=(n%((2^64:Nat):Int)).toNat%2^3:=by rw[Ag,Ah,hm,Ai]
 show ae ((BitVec.ofInt 64 n&&&BitVec.ofInt 64 7).toNat:Nat)=n%8;rw[key,nE];omega
theorem Hk(n:Int):bits .and .i64 n 31=n%32:=by
 have hm:(BitVec.ofInt 64 31).toNat=2^5-1:=by decide
 have key:(BitVec.ofInt 64 n&&&BitVec.ofInt 64 31).toNat=(n%((2^64:Nat):Int)).toNat%2^5:=by rw[Ag,Ah,hm,Ai]
 show ae ((BitVec.ofInt 64 n&&&BitVec.ofInt 64 31).toNat:Nat)=n%32;rw[key,nE];omega
theorem ZJ(n:Int):bits .and .i64 n 63=n%64:=by
 have hm:(BitVec.ofInt 64 63).toNat=2^6-1:=by decide
 have key:(BitVec.ofInt 64 n&&&BitVec.ofInt 64 63).toNat=(n%((2^64:Nat):Int)).toNat%2^6:=by rw[Ag,Ah,hm,Ai]
 show ae ((BitVec.ofInt 64 n&&&BitVec.ofInt 64 63).toNat:Nat)=n%64;rw[key,nE];omega
theorem Ch(n:Int):bits .and .i64 n 255=n%256:=by
 have hm:(BitVec.ofInt 64 255).toNat=2^8-1:=by decide
 have key:(BitVec.ofInt 64 n&&&BitVec.ofInt 64 255).toNat=(n%((2^64:Nat):Int)).toNat%2^8:=by rw[Ag,Ah,hm,Ai]
 show ae ((BitVec.ofInt 64 n&&&BitVec.ofInt 64 255).toNat:Nat)=n%256;rw[key,nE];omega
theorem ZK(n:Int):bits .and .i64 n 16383=n%16384:=by
 have hm:(BitVec.ofInt 64 16383).toNat=2^14-1:=by decide
 have key:(BitVec.ofInt 64 n&&&BitVec.ofInt 64 16383).toNat=(n%((2^64:Nat):Int)).toNat%2^14:=by rw[Ag,Ah,hm,Ai]
 show ae ((BitVec.ofInt 64 n&&&BitVec.ofInt 64 16383).toNat:Nat)=n%16384;rw[key,nE];omega
theorem ZL(n:Int):bits .and .i64 n 32767=n%32768:=by
 have hm:(BitVec.ofInt 64 32767).toNat=2^15-1:=by decide
 have key:(BitVec.ofInt 64 n&&&BitVec.ofInt 64 32767).toNat=(n%((2^64:Nat):Int)).toNat%2^15:=by rw[Ag,Ah,hm,Ai]
 show ae ((BitVec.ofInt 64 n&&&BitVec.ofInt 64 32767).toNat:Nat)=n%32768;rw[key,nE];omega
end iL
namespace mI
open Go.RowKit gI ga jz qe
theorem h1{a b:Bool}(h:a=b):Ending.returned (U a)=ab (U b):=by rw[h]
theorem ZM{S:Ua}(h:S.size=0):S=⟨#[]⟩:=lD (lP (by rw[ch];exact h))
theorem EB(S:Ua):(S.toList==[])=decide (S.size=0):=by
 rw[nj];cases h:S.data.toList with
 |nil=>
  have:S.size=0:=(by rw[←ch,h];rfl);rw[this];rfl
 |cons c l=>
  have:S.size≠0:=(by rw[←ch,h];simp);rw[fJ this];rfl
theorem ZN(l:ar)(c:UInt8):decide (0≤Lib.indexByte l c)=l.contains c:=by
 induction l with
 |nil=>rfl
 |cons x l cU=>
  unfold Lib.indexByte;rw[List.contains_cons];by_cases h:x=c
  ·subst h;simp
  ·have ax:(c==x)=false:=beq_eq_false_iff_ne.2 (eN h);rw[ax,S6,←cU];have hx:(x==c)=false:=beq_eq_false_iff_ne.2 h;rw[hx,aN (by decide)];have:=Lib.indexByte_ge l c;by_cases au:Lib.indexByte l c= -1
   ·rw[aW (beq_iff_eq.2 au),au]
   ·rw[aN (fun h=>au (beq_iff_eq.1 h)),yN];simp only[p0];omega
theorem ai7(S:Ua)(k:Nat)(h:k<S.size):∃az:k<S.data.toList.length,S.data.toList[k]=S[k]:=⟨by rw[ch];exact h,by simp;rfl⟩
theorem Km(s:Ua)(a k:Nat):(s.extract a k).data.toList=(s.data.toList.take k).drop a:=by rw[AE,D0]
def xJ(w w':aeo):Prop:=∃n,w'=w.drewN n
theorem xJ.trans{a b c:aeo}(h:xJ a b)(ax:xJ b c):xJ a c:=by obtain⟨n,rfl⟩:=h;obtain⟨m,rfl⟩:=ax;exact⟨n+m,by simp[World.drewN,vZ]⟩
theorem ai8{fn:Func}{t u v x:Tmp}(h:fn.results= #[.tmp t,.tmp u,.tmp v,.tmp x])(tmps:ajv)(P:Program)(w:aeo):
  (results fn tmps).run P w=.ok (.tuple #[tmps.getD t undef,tmps.getD u undef,tmps.getD v undef,tmps.getD x undef]) w:=by
 simp[results,h]
theorem o0(S:Ua):(⟨S.data.toList.toArray⟩:Ua)=S:=lD rfl
def OG(d:D)(a:Int)(bF:ada):Array Value:= #[I a,I d.k,I d.n,U d.on,aa ⟨d.t.toArray⟩,aa ⟨d.x.toArray⟩,aa ⟨d.y.toArray⟩,aa ⟨d.u.toArray⟩,aa ⟨d.v.toArray⟩,bF]
abbrev cA:Value:=J 0
abbrev EC(d:D)(a:Int)(bF:ada):Value:=.agg (OG d a bF)
abbrev gJ(d:D)(a:Int)(bF:ada):Obj:=.cells (OG d a bF) 101
def dd(B:Nat)(w:aeo)(p:Ja)(l:List Int):Prop:=0<l.length→∃(b o:Nat) (cs:ajv),p=some ⟨b,o,none⟩∧B≤b∧al w b cs 2∧∀i (hi:i<l.length),cs[o+i]?=some (I l[i])
theorem dd.nil(B:Nat)(w:aeo)(p:Ja):dd B w p []:=fun h=>absurd h (mi _)
variable{b:Nat}{x w:aeo}
theorem ba{v:aeo}{o:Obj}(h:w.heap[b]?=some o)(ay:an w w v):v.heap[b]?=some o:=
 (ay.block b (Array.getElem?_eq_some_iff.1 h).1).trans h
theorem dd.below{B:Nat}{w':aeo}{p:Ja}{l:List Int}(h:dd B w p l)(ay:an w w w'):dd B w' p l:=by intro az;obtain⟨b,o,cs,rfl,bz,aE,aB⟩:=h az;exact⟨b,o,cs,rfl,bz,ba aE ay,aB⟩
theorem dd.mono{B C:Nat}{p:Ja}{l:List Int}(h:dd B w p l)(lU:C≤B):dd C w p l:=by intro az;obtain⟨b,o,cs,rfl,bz,aE,aB⟩:=h az;exact⟨b,o,cs,rfl,cd lU bz,aE,aB⟩
variable{t:aai}{v0 v1 v2 v3 v4 v5 v6 bS b0 v9:ada}
theorem jM(h:al w b (#[v0,v1,v2,v3,v4,v5,v6,bS,b0,v9]) t):
  (ak w b 0 v0∧ak w b 1 v1∧ak w b 2 v2∧ak w b 3 v3∧ak w b 4 v4∧ak w b 5 v5∧ak w b 6 v6∧ak w b 7 bS∧ak w b 8 b0∧ak w b 9 v9)∧
  (w.frozen? ⟨b,0,none⟩=false∧w.frozen? ⟨b,1,none⟩=false∧w.frozen? ⟨b,2,none⟩=false∧w.frozen? ⟨b,3,none⟩=false∧w.frozen? ⟨b,4,none⟩=false∧w.frozen? ⟨b,5,none⟩=false∧w.frozen? ⟨b,6,none⟩=false∧w.frozen? ⟨b,7,none⟩=false∧w.frozen? ⟨b,8,none⟩=false∧w.frozen? ⟨b,9,none⟩=false):=by
 refine⟨⟨?_,?_,?_,?_,?_,?_,?_,?_,?_,?_⟩,?_,?_,?_,?_,?_,?_,?_,?_,?_,?_⟩<;>simp[World.cell?,World.frozen?,h]
theorem here{c:ajv}(h:al x b c t)(o:Nat)(u:ada):(x.setCell (aj b o) u).heap[b]?=some (.cells (c.setIfInBounds o u) t):=by show (Array.modify _ _ _)[b]?=_;rw[vU,aW rfl,h];rfl
theorem Hl(h:al x b (#[v0,v1,v2,v3,v4,v5,v6,bS,b0,v9]) t)(u:ada):(x.setCell (aj b 0) u).heap[b]?=some (.cells #[u,v1,v2,v3,v4,v5,v6,bS,b0,v9] t):=here h 0 u
theorem Kn(h:al x b (#[v0,v1,v2,v3,v4,v5,v6,bS,b0,v9]) t)(u:ada):(x.setCell (aj b 1) u).heap[b]?=some (.cells #[v0,u,v2,v3,v4,v5,v6,bS,b0,v9] t):=here h 1 u
theorem Ko(h:al x b (#[v0,v1,v2,v3,v4,v5,v6,bS,b0,v9]) t)(u:ada):(x.setCell (aj b 2) u).heap[b]?=some (.cells #[v0,v1,u,v3,v4,v5,v6,bS,b0,v9] t):=here h 2 u
theorem Kp(h:al x b (#[v0,v1,v2,v3,v4,v5,v6,bS,b0,v9]) t)(u:ada):(x.setCell (aj b 3) u).heap[b]?=some (.cells #[v0,v1,v2,u,v4,v5,v6,bS,b0,v9] t):=here h 3 u
theorem Kq(h:al x b (#[v0,v1,v2,v3,v4,v5,v6,bS,b0,v9]) t)(u:ada):(x.setCell (aj b 4) u).heap[b]?=some (.cells #[v0,v1,v2,v3,u,v5,v6,bS,b0,v9] t):=here h 4 u
theorem Kr(h:al x b (#[v0,v1,v2,v3,v4,v5,v6,bS,b0,v9]) t)(u:ada):(x.setCell (aj b 5) u).heap[b]?=some (.cells #[v0,v1,v2,v3,v4,u,v6,bS,b0,v9] t):=here h 5 u
theorem Ks(h:al x b (#[v0,v1,v2,v3,v4,v5,v6,bS,b0,v9]) t)(u:ada):(x.setCell (aj b 6) u).heap[b]?=some (.cells #[v0,v1,v2,v3,v4,v5,u,bS,b0,v9] t):=here h 6 u
theorem Kt(h:al x b (#[v0,v1,v2,v3,v4,v5,v6,bS,b0,v9]) t)(u:ada):(x.setCell (aj b 7) u).heap[b]?=some (.cells #[v0,v1,v2,v3,v4,v5,v6,u,b0,v9] t):=here h 7 u
theorem Ku(h:al x b (#[v0,v1,v2,v3,v4,v5,v6,bS,b0,v9]) t)(u:ada):(x.setCell (aj b 8) u).heap[b]?=some (.cells #[v0,v1,v2,v3,v4,v5,v6,bS,u,v9] t):=here h 8 u
theorem Kv(h:al x b (#[v0,v1,v2,v3,v4,v5,v6,bS,b0,v9]) t)(u:ada):(x.setCell (aj b 9) u).heap[b]?=some (.cells #[v0,v1,v2,v3,v4,v5,v6,bS,b0,u] t):=here h 9 u
abbrev Ci:Obj:=.cells #[I 0,I 0,I 0,U false,aa ⟨#[]⟩,aa ⟨#[]⟩,aa ⟨#[]⟩,aa ⟨#[]⟩,aa ⟨#[]⟩,J 0] 101
structure kt(w W:aeo):Prop where
 a:W.heap[w.heap.size]?=some Ci
 b:an w w W
theorem kt.below{W jN:aeo}(h:kt w W)(ay:an W W jN):kt w jN:=⟨ba h.a ay,h.b.trans (ay.mono h.b.size)⟩
theorem va(w:aeo):kt w (w.alloc Ci):=⟨dL w _,(Below.refl _ _).alloc (aP _) _⟩
end mI
namespace qe
open ga
open Go.Lib (replaceK replaceAll replace replaceNum indexByte index)
theorem ZO(c:UInt8):∀s:ar,replaceK [c] [] (s.count c) s=s.filter (· !=c)
 |[]=>rfl
 |b::l=>by
  have cU:=ZO c l;by_cases h:b=c
  ·subst h;have hi:index (b::l) [b]=((0:Nat):Int):=(by rw[Lib.index_one];unfold indexByte;rw[aW (by simp)];rfl);rw[List.count_cons_self,S7 _ _ _ _ 0 hi];simp[cU]
  ·have ay:(b==c)=false:=beq_eq_false_iff_ne.2 h;rw[List.count_cons_of_ne h,List.filter_cons_of_pos (by simp[h])];cases aw:l.count c with
   |zero=>
    rw[aw] at cU;have e:∀s:ar,replaceK [c] [] 0 s=s:=fun s=>rfl;rw[e] at cU⊢;rw[←cU]
   |succ k=>
    rw[aw] at cU;have aB:0<Lib.count l [c]:=(by rw[Lib.count_one,aw];omega);obtain⟨i,hi⟩:=Lib.index_of_count aB;have oq:index (b::l) [c]=((i+1:Nat):Int):=(by rw[Lib.index_one] at hi⊢;unfold indexByte;rw[ay,aN (by decide),hi,aN (by simp<;>omega)];rfl);rw[S7 _ _ _ _ _ hi] at cU;rw[S7 _ _ _ _ _ oq,←cU];simp
theorem ai9(c:UInt8)(s:ar):replaceAll s [c] []=s.filter (· !=c):=by
 unfold replaceAll replace;rw[aN (by simp)];have:replaceNum s [c] (-1)=s.count c:=by unfold replaceNum;rw[aW (.inl (by decide)),Lib.count_one]
 rw[this];exact ZO c s
end qe
namespace mI
open Go.RowKit gI ga qe
def Cj(x:Nat×D)(bF:ada):List Value:=(OG x.2 (x.1:Int) bF).toList
def AG:List (Nat×D)→aev→List Value
 |x::l,v::i'=>Cj x v++AG l i'
 |_,_=>[]
def iM(B:Nat)(w:aeo)(l:List (Nat×D))(xs:aev):Prop:=
 ∃i':aev,i'.length=l.length∧xs=AG l i'∧∀i (h:i<l.length) (ax:i<i'.length),∃p c,i'[i]=.slice p l[i].2.bX.length c∧dd B w p l[i].2.bX
theorem Td(x:Nat×D)(v:ada):(Cj x v).length=10:=rfl
theorem ZP:∀(l:List (Nat×D)) (i':aev) (x:Nat×D) (v:ada),i'.length=l.length→AG (l++[x]) (i'++[v])=AG l i'++Cj x v
 |[],[],x,v,_=>by simp[AG]
 |[],_::_,_,_,h=>by simp at h
 |_::_,[],_,_,h=>by simp at h
 |y::l,n::i',x,v,h=>by have cU:=ZP l i' x v (by simpa using h);simp only[w3,AG,cU,List.append_assoc]
theorem ZQ:∀(l:List (Nat×D)) (i':aev) (h:i'.length=l.length) (i:Nat) (hi:i<l.length) (j:Nat),j<10→(AG l i')[i *10+j]?=(Cj l[i] (i'[i]'(by omega)))[j]?
 |[],_,_,i,hi,_,_=>by simp at hi
 |_::_,[],h,_,_,_,_=>by simp at h
 |y::l,n::i',h,0,hi,j,b6=>by simp only[AG,G',jt];rw[Ey (by rw[Td];exact b6)];rfl
 |y::l,n::i',h,i+1,hi,j,b6=>by simp only[AG];rw[xz (by rw[Td];omega),Td,show (i+1) *10+j-10=i *10+j by omega];exact ZQ l i' (by simpa using h) i (by simpa using hi) j b6
theorem iM.nil(B:Nat)(w:aeo):iM B w [] []:=⟨[],rfl,rfl,fun i h _=>absurd h (by simp)⟩
variable{B:Nat}{w:aeo}{xs:aev}
theorem iM.imp{w':aeo}{l:List (Nat×D)}(h:iM B w l xs)(hn:∀p (n:List Int),dd B w p n→dd B w' p n):iM B w' l xs:=by obtain⟨i',au,ax,aA⟩:=h;refine⟨i',au,ax,fun i hi oq=>?_⟩;obtain⟨p,c,e,hp⟩:=aA i hi oq;exact⟨p,c,e,hn _ _ hp⟩
theorem iM.below{B:Nat}{w w':aeo}{l:List (Nat×D)}{xs:aev}(h:iM B w l xs)(ay:an w w w'):iM B w' l xs:=h.imp fun _ _ hp=>hp.below ay
theorem iM.snoc{l:List (Nat×D)}(h:iM B w l xs)(x:Nat×D)(p:Ja)(c:Nat)(hp:dd B w p x.2.bX):iM B w (l++[x]) (xs++Cj x (ad p x.2.bX.length c)):=by
 obtain⟨i',au,rfl,aA⟩:=h;refine⟨i'++[ad p x.2.bX.length c],by simp[au],(ZP l i' x _ au).symm,fun i hi oq=>?_⟩;by_cases Hm:i<l.length
 ·obtain⟨q,d,e,aG⟩:=aA i Hm (by omega);refine⟨q,d,?_,?_⟩
  ·rw[Ez (by omega),e];simp[Ez,Hm]
  ·simpa[Ez,Hm] using aG
 ·have e:i=l.length:=(by simp at hi;omega);subst e;refine⟨p,c,?_,?_⟩
  ·simp[←au]
  ·simpa using hp
structure xK(w0:aeo)(v:ada)(acc:List (Nat×D))(w:aeo):Prop where
 own:∃xs,w.ownsRow w0.heap.size 101 10 v acc.length xs∧iM w0.heap.size w acc xs
 aM:an w0 w0 w
theorem xK.below{w0 w w':aeo}{v:ada}{acc:List (Nat×D)}(h:xK w0 v acc w)(ay:an w w w'):xK w0 v acc w':=by obtain⟨⟨xs,au,ax⟩,aA⟩:=h;exact⟨⟨xs,au.kept (row:=none) ⟨ay.os,ay.tape,ay.output,ay.size,fun k aw _=>ay.block k aw⟩ (by cases v.ownBlock<;>simp),ax.below ay⟩,aA.trans (ay.mono aA.size)⟩
theorem nP{e t:aai}{aR n:Nat}{v:ada}{xs:aev}(h:w.ownsRow B e aR v n xs){b:Nat}{cs:ajv}{dk:Nat×Nat}(ay:w.heap[b]?=some (.cells cs t dk))(he:e≠t):v.ownBlock≠some b:=by
 rcases h.2 with ⟨rfl,_⟩|⟨g,cap,cur,rfl,_,aE,_⟩
 ·simp[Value.ownBlock]
 ·intro ax;have:g=b:=(by simpa[Value.ownBlock] using ax);subst this;rw[ay] at aE;injection aE with aE;injection aE with _ bc;exact he bc.symm
theorem xK.push{w0 w':aeo}{v v':ada}{acc:List (Nat×D)}{xs:aev}{o:Obj}{x:Nat×D}{p:Ja}{c:Nat}(hx:w.ownsRow w0.heap.size 101 10 v acc.length xs)(hr:iM w0.heap.size w acc xs)(ay:an w0 w0 w)
  (hp:dd w0.heap.size w p x.2.bX) (aI:(w.alloc o).grownBy w' v.ownBlock) (a1:w'.ownsRow w0.heap.size 101 10 v' (acc.length+1) (xs++Cj x (ad p x.2.bX.length c))):xK w0 v' (acc++[x]) w':=by
 have key:∀q (n:List Int),dd w0.heap.size w q n→dd w0.heap.size w' q n:=by intro q n aG az;obtain⟨b,v8,cs,rfl,bz,aE,aB⟩:=aG az;have bm:=(Array.getElem?_eq_some_iff.1 aE).1;refine⟨b,v8,cs,rfl,bz,?_,aB⟩;rw[aI.block b (by simp;omega) (eN (nP hx aE (by decide))),qL _ _ _ bm];exact aE
 refine⟨⟨_,?_,(hr.imp key).snoc x p c (key _ _ hp)⟩,?_⟩
 ·rw[show (acc++[x]).length=acc.length+1 by simp];exact a1
 ·exact (ay.alloc ay.size o).grown aI (cd ay.size (by simp)) (fun k aw=>(hx.lt _ aw).1)
theorem aja:(Tryz.prog.info? 101).map (fun i=>(i.zero,i.size,i.bytes))=some (some (.agg #[I 0,I 0,I 0,U false,aa ⟨#[]⟩,aa ⟨#[]⟩,aa ⟨#[]⟩,aa ⟨#[]⟩,aa ⟨#[]⟩,J 0]),10,136):=by kernel_rfl
theorem ZR(w:aeo){w':aeo}(ay:an w w w'):xK w cA [] w':=⟨⟨[],⟨rfl,.inl ⟨rfl,rfl⟩⟩,iM.nil _ _⟩,ay⟩
end mI
