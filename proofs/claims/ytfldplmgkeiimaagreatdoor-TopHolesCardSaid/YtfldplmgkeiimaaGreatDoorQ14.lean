/- Lemmas. -/
import Derived.Deep.Draws
import Derived.Shelf.Bytes.SlSmallAll
import Derived.Laws.BytesArg
import Derived.Laws.IdiomStrings
import Derived.Laws.CopyRow
import Derived.Test.YtfldplmgkeiimaaGreatDoorQ13
import Derived.Lib.FrozenHead
set_option linter.all false
set_option maxRecDepth 100000
set_option maxHeartbeats 800000
namespace Go.Proofs.YtfldplmgkeiimaaGreatDoor
abbrev Px:=@Array.toList_setIfInBounds
abbrev Ln:=@List.length_set
abbrev Py:=@List.take_set
abbrev yi:=@wpList_append_own
abbrev oY:=@Lib.toList_data
abbrev Bv:=@List.drop_succ_cons
abbrev Pz:=@Nat.mul_lt_mul_of_pos_right
abbrev PA:=@Nat.pow_add
abbrev aaW:=@ByteArray.size_append
namespace Mem
open Go.RowKit
def num(l:bk):List Int:=l.map fun c=>(c.toNat:Int)
def sI(l:bk):List Value:=l.map fun c=>Value.int .u8 (c.toNat:Int)
theorem aaX(l:bk):(num l).length=l.length:=by simp[num]
theorem alq(l:bk):(sI l).length=l.length:=by simp[sI]
theorem alr(a b:bk):sI (a++b)=sI a++sI b:=by simp[sI]
theorem als(l:bk):Lib.bytesOf (num l)=l:=by
 unfold Lib.bytesOf num;rw[List.map_map]
 conv=>rhs;rw[←List.map_id l]
 apply List.map_congr_left;intro c _;simp
theorem alu(l:bk):strOfNums (num l)=⟨l.toArray⟩:=by unfold strOfNums;have h:=als l;unfold Lib.bytesOf at h;rw[h]
theorem Uo(l:bk)(i:Nat)(h:i<l.length):(num l).getD i 0=(l[i].toNat:Int):=by simp[num,List.getD,h]
theorem alv(l:bk)(i:Nat)(h:i<l.length):(sI l)[i]?=some (.int .u8 (l[i].toNat:Int)):=by simp[sI,h]
def kc(w:bTo)(p:aya)(l:bk):Prop:=Lib.BytesIn w p l.length (num l)
theorem kc.nil(w:bTo)(p:aya):kc w p []:=Lib.BytesIn.nil w p _
theorem aaY{w:bTo}{a:Addr}{u:ada}(h:w.cell? a=some u):a.block<w.heap.size:=by
 rcases Nat.lt_or_ge a.block w.heap.size with fy|fy
 ·exact fy
 ·simp[World.cell?,Kh fy] at h
variable{b o B g cap:Nat}{l:bk}
theorem kc.cell{w:bTo}(h:kc w (some (ag b o)) l)(i:Nat)(hi:i<l.length):aw w b (o+i) (.int .u8 (l[i].toNat:Int)):=by obtain⟨bd,uG,e,hc⟩:=h.at (by omega);injection e with e;injection e with aN aR _;subst aN;subst aR;rw[hc i hi,Uo l i hi]
variable{p:aya}
theorem kc.addr{w:bTo}(h:kc w p l)(aj:0<l.length):∃b o,p=some ⟨b,o,none⟩:=by obtain⟨b,o,e,_⟩:=h.at aj;exact⟨b,o,e⟩
theorem kc.of{w:bTo}(h:∀i (hi:i<l.length),aw w b (o+i) (.int .u8 (l[i].toNat:Int))):kc w (some (ag b o)) l:=
 fun _=>⟨b,o,rfl,fun i hi=>by rw[h i hi,Uo l i hi]⟩
theorem kc.lt{w:bTo}(h:kc w (some (ag b o)) l)(aj:0<l.length):b<w.heap.size:=aaY (h.cell 0 aj)
theorem kc.keep{w w':bTo}(h:kc w p l)(ab:∀a:Addr,(∃u,w.cell? a=some u)→w'.cell? a=w.cell? a):kc w' p l:=by intro aj;obtain⟨b,o,rfl,hc⟩:=h.at aj;exact⟨b,o,rfl,fun i hi=>by rw[ab _ ⟨_,hc i hi⟩];exact hc i hi⟩
theorem kc.below{w w':bTo}(h:kc w p l)(af:av w w w'):kc w' p l:=
 h.keep fun a ⟨_,ha⟩=>af.cell (p:=a) (aaY ha)
theorem kc.take{w:bTo}{p:aya}{l:bk}(h:kc w p l)(k:Nat):kc w p (l.take k):=by
 intro aj;have rF:0<l.length:=by simp at aj;omega
 obtain⟨b,o,rfl⟩:=h.addr rF;refine⟨b,o,rfl,fun i hi=>?_⟩;rw[Uo _ i hi];have JR:i<l.length:=by simp at hi;omega
 rw[h.cell i JR];simp
theorem kc.drop{w:bTo}{b o:Nat}{l:bk}(h:kc w (some (ag b o)) l)(k:Nat):kc w (some (ag b (o+k))) (l.drop k):=by
 refine kc.of fun i hi=>?_;have JR:k+i<l.length:=by simp at hi;omega
 rw[y',h.cell (k+i) JR];simp
theorem kc.str{P:Program}{w:bTo}(h:kc w p l)(src e dst:aui)(hs:P.underlying src=some (.slice e))(he:P.underlying e=some (.int .u8))(hd:P.underlying dst=some .string)(n c:Nat)(hn:n=l.length):
  (convert src dst (ad p n c)).run P w=.ok (au ⟨l.toArray⟩) w:=by
 subst hn;rcases GV l.length with aQ|aQ
 ·obtain rfl:l=[]:=qz aQ;exact Go.Proofs.run_convert_bytes_zero w src e hs he p c dst hd
 ·obtain⟨b,o,rfl,hc⟩:=h.at aQ;rw[run_convert_bytes_arg w src e hs he b o l.length c (num l) (aaX l) hc dst hd,alu]
def Own(w:bTo)(B:Nat)(e:aui)(g cap:Nat)(l:bk):Prop:=
 ∃cur ef,B≤g∧w.heap[g]?=some (.cells cur e ef)∧(ef.2=0∨cap≤ef.1)∧l.length≤cap∧cap≤maxLen∧cur.size=cap∧cur.toList.take l.length=sI l
variable{e:aui}
theorem Own.lt{w:bTo}(h:Own w B e g cap l):g<w.heap.size:=by obtain⟨_,_,_,aX,_⟩:=h;exact (Array.getElem?_eq_some_iff.1 aX).1
theorem Own.ge{w:bTo}(h:Own w B e g cap l):B≤g:=by obtain⟨_,_,af,_⟩:=h;exact af
theorem Own.below{w w':bTo}(h:Own w B e g cap l)(af:av w w w'):Own w' B e g cap l:=by have aj:=h.lt;obtain⟨cur,ef,aa,aX,ah⟩:=h;exact⟨cur,ef,aa,(af.block g aj).trans aX,ah⟩
theorem Own.set{w:bTo}{B g cap:Nat}{e:aui}{l:bk}(h:Own w B e g cap l)(i:Nat)(x:UInt8):Own (w.setCell (ag g i) (.int .u8 (x.toNat:Int))) B e g cap (l.set i x):=by
 obtain⟨cur,ef,af,aX,oc,Fx,zY,h1,bH⟩:=h;refine⟨cur.setIfInBounds i (.int .u8 (x.toNat:Int)),ef,af,?_,oc,by simpa using Fx,zY,by simpa using h1,?_⟩
 ·show (Array.modify _ _ _)[g]?=_;rw[Co,aT rfl,aX];rfl
 ·rw[Px,Ln,Py,bH];unfold sI;rw[List.map_set]
theorem Own.mono{w:bTo}{Fm:Nat}(h:Own w B e g cap l)(bJ:Fm≤B):Own w Fm e g cap l:=by obtain⟨cur,ef,aa,ah⟩:=h;exact⟨cur,ef,by omega,ah⟩
section
variable{P:Program}
end
end Mem
namespace rG
open Go.RowKit kG pH xy Mem
theorem Fy{k:IntKind}{a b:Int}(h:a=b):Ending.returned (.int k a)=bb (.int k b):=by rw[h]
def sJ(l:List (Int×Int)):List Value:=l.flatMap fun o=>[I o.1,I o.2]
theorem alw(a b:List (Int×Int)):sJ (a++b)=sJ a++sJ b:=by simp[sJ]
abbrev PB(S:aia)(at_ deep:Int)(v:ada)(e:Int):Obj:=.cells #[au S,I at_,I deep,v,I e] 373
structure iu(w0:bTo)(S:aia)(R:Nat)(deep:Nat)(st:dU)(k:Nat)(v:ada)(w:bTo):Prop where
 vm:k≤S.size
 rest:S.data.toList.drop k=st.r
 obj:w.heap[R]?=some (PB S (k:Int) (deep:Int) v (st.e:Int))
 own:w.ownsRow w0.heap.size 413 2 v st.ops.length (sJ st.ops)
 aY:av w0 w0 w
 ge:w0.heap.size≤R
def qR(w0:bTo)(S:aia)(R:Nat)(deep:Nat)(st:dU)(w:bTo):Prop:=∃k v,iu w0 S R deep st k v w
section
variable{w0 w w':bTo}{S:aia}{R deep k:Nat}{st:dU}{v:ada}
theorem iu.cells(h:iu w0 S R deep st k v w):aw w R 0 (au S)∧aw w R 1 (I (k:Int))∧aw w R 2 (I (deep:Int))∧aw w R 3 v∧aw w R 4 (I (st.e:Int)):=by have aa:=h.obj;refine⟨?_,?_,?_,?_,?_⟩<;>simp[World.cell?,aa]
theorem iu.any(h:iu w0 S R deep st k v w):qR w0 S R deep st w:=⟨k,v,h⟩
theorem iu.frozen(h:iu w0 S R deep st k v w)(o:Nat):w.frozen? ⟨R,o,none⟩=false:=by have aa:=h.obj;simp[World.frozen?,aa]
theorem iu.len(h:iu w0 S R deep st k v w):k+st.r.length=S.size:=by have aa:=gb List.length h.rest;rw[gZ,cR] at aa;have:=h.vm;omega
theorem iu.lt(h:iu w0 S R deep st k v w):R<w.heap.size:=(Array.getElem?_eq_some_iff.1 h.obj).1
theorem iu.ne(h:iu w0 S R deep st k v w):v.ownBlock≠some R:=by
 rcases h.own.2 with ⟨rfl,_⟩|⟨g,cap,cur,rfl,_,aF,_⟩
 ·simp[Value.ownBlock]
 ·intro he;have:g=R:=(by simpa[Value.ownBlock] using he);subst this;rw[h.obj] at aF;injection aF with aF;injection aF with _ bH;exact absurd bH (by decide)
theorem iu.drewN(h:iu w0 S R deep st k v w)(n:Nat):iu w0 S R deep st k v (w.drewN n):=
 ⟨h.vm,h.rest,h.obj,⟨h.own.1,h.own.2⟩,below_drewN h.aY n,h.ge⟩
theorem iu.below(h:iu w0 S R deep st k v w)(af:av w w w'):iu w0 S R deep st k v w':=
 ⟨h.vm,h.rest,(af.block R h.lt).trans h.obj,h.own.kept (row:=none) ⟨af.os,af.tape,af.output,af.size,fun k ab _=>af.block k ab⟩ (by cases v.ownBlock<;>simp),h.aY.trans (af.mono h.aY.size),h.ge⟩
theorem kA{x:bTo}{b:Nat}{c:agv}{t:aui}(h:bo x b c t)(o:Nat)(u:ada):(x.setCell (ag b o) u).heap[b]?=some (.cells (c.setIfInBounds o u) t):=by show (Array.modify _ _ _)[b]?=_;rw[Co,aT rfl,h];rfl
theorem PC{x:bTo}{base:Nat}{e:aui}{size n:Nat}{v:ada}{xs:bTv}(h:x.ownsRow base e size v n xs){a:Addr}(ha:v.ownBlock≠some a.block)(u:ada):(x.setCell a u).ownsRow base e size v n xs:=
 h.kept (w':=x.setCell a u) (row:=some a.block) ⟨rfl,rfl,rfl,by simp[World.setCell],fun k ab hne=>jZ _ _ _ _ (fun e=>hne (by rw[e]))⟩ (.inr ha)
theorem iu.step(h:iu w0 S R deep st k v w){r:bk}{m:Nat}(hm:m≤S.size)(hr:S.data.toList.drop m=r):iu w0 S R deep ⟨r,st.ops,st.e⟩ m v (w.setCell (ag R 1) (I (m:Int))):=
 ⟨hm,hr,by rw[kA h.obj];rfl,PC h.own h.ne _,h.aY.setCell h.ge _,h.ge⟩
theorem iu.err(h:iu w0 S R deep st k v w)(e:Nat):iu w0 S R deep ⟨st.r,st.ops,e⟩ k v (w.setCell (ag R 4) (I (e:Int))):=
 ⟨h.vm,h.rest,by rw[kA h.obj];rfl,PC h.own h.ne _,h.aY.setCell h.ge _,h.ge⟩
theorem iu.PD(h:iu w0 S R deep st k v w)(m:Nat):iu w0 S R m st k v (w.setCell (ag R 2) (I (m:Int))):=
 ⟨h.vm,h.rest,by rw[kA h.obj];rfl,PC h.own h.ne _,h.aY.setCell h.ge _,h.ge⟩
end
theorem alx(w:bTo)(a b:Nat):(w.drewN a).drewN b=w.drewN (a+b):=by simp[World.drewN,y']
def vn(r:bk):Int:=((hd r).toNat:Int)
def aly(c:Int)(w:bTo)(e:Ending)(w':bTo):Prop:=∃n,e=bb (.int .u8 c)∧w'=w.drewN n
variable{w0:bTo}{S:aia}{R deep:Nat}{st:dU}{v:ada}
theorem pI{k:Nat}(w:bTo)(h:J (iu w0 S R deep st k v w))(c:Int)(hc:J (vn st.r=c)):
  Calls Tryz.prog 290 #[dv R 0] w (aly c w):=by
 obtain⟨aJ,aI,c2,c3,bF⟩:=h.out.cells;have ab:=h.out.vm;by_cases b0:k<S.size
 ·obtain⟨X,dp⟩:=az (S[k].toNat:Int);have Up:J (X=c):=(by show X=c;rw[←hc.out,←dp];unfold vn;have aj:k<S.data.toList.length:=(by rw[cR];exact b0);have aa:=l3 aj;rw[h.out.rest] at aa;rw[aa];rfl);go_enter Tryz.func290,Tryz.ntmps290;go_wp2_with fail
  go_quiet (fail)
  go_wp2_with fail
  go_quiet (fail)
  go_wp2_with fail;go_ret;exact⟨_,Fy Up.out,alx _ _ _⟩
 ·have Up:J ((0:Int)=c):=(by show 0=c;rw[←hc.out];have aa:=h.out.rest;rw[n7 (by rw[cR];omega)] at aa;rw[←aa];rfl);go_enter Tryz.func290,Tryz.ntmps290;go_wp2_with fail
  go_quiet (fail)
  go_wp2_with fail;go_ret;exact⟨_,Fy Up.out,rfl⟩
def Left(w0:bTo)(S:aia)(R deep:Nat)(st:dU)(e:Ending)(w':bTo):Prop:=e=bb (.tuple #[])∧qR w0 S R deep st w'
theorem alz:(Tryz.prog.info? 413).map (fun i=>(i.zero,i.size,i.bytes))=some (some (.agg #[I 0,I 0]),2,16):=by kernel_rfl
theorem alA{x:bTo}{base:Nat}{e:aui}{size n:Nat}{xs:bTv}(h:x.ownsRow base e size v n xs):∀k,v.ownBlock=some k→base≤k:=fun k ab=>(World.ownsRowF.lt (World.ownsRowF_of h) k ab).1
theorem iu.appended{w w':bTo}{k:Nat}{v':ada}{q n:Int}{o:Obj}(h:iu w0 S R deep st k v w)(aX:(w.alloc o).grownBy w' v.ownBlock)(bl:w'.ownsRow w0.heap.size 413 2 v' (st.ops.length+1) (sJ st.ops++[I q,I n]))(bx:st.e=0):
  iu w0 S R deep (put st q n) k v' (w'.setCell (ag R 3) v')∧aw w' R 3 v∧w'.frozen? ⟨R,3,none⟩=false∧w'.heap[R]?=some (PB S (k:Int) (deep:Int) v (st.e:Int)):=by
 have hR:w'.heap[R]?=some (PB S (k:Int) (deep:Int) v (st.e:Int)):=by rw[aX.block R (by have:=h.lt;simp;omega) (fN h.ne),Bo _ _ _ h.lt,h.obj]
 have hp:put st q n=⟨st.r,st.ops++[(q,n)],0⟩:=by unfold put;rw[aT bx]
 refine⟨?_,by simp[World.cell?,hR],by simp[World.frozen?,hR],hR⟩;rw[hp];refine⟨h.vm,h.rest,by rw[kA hR,bx];rfl,?_,?_,h.ge⟩
 ·have hne:v'.ownBlock≠some R:=by
   rcases bl.2 with ⟨rfl,_⟩|⟨g,cap,cur,rfl,_,aF,_⟩
   ·simp[Value.ownBlock]
   ·intro he;have:g=R:=(by simpa[Value.ownBlock] using he);subst this;rw[hR] at aF;injection aF with aF;injection aF with _ bH;exact absurd bH (by decide)
  have hx:=PC bl (a:=⟨R,3,none⟩) hne v';rw[show (st.ops++[(q,n)]).length=st.ops.length+1 by simp,alw];exact hx
 ·exact ((h.aY.alloc h.aY.size o).grown aX (dX h.aY.size (by simp)) (alA h.own)).setCell h.ge _
theorem yj(w:bTo)(h:qR w0 S R deep st w)(aj:st.ops.length≤1000)(q n:Int):
  Calls Tryz.prog 291 #[dv R 0,I q,I n] w (Left w0 S R deep (put st q n)):=by
 obtain⟨k,v,h⟩:=h;have H:=U h;obtain⟨aJ,aI,c2,c3,bF⟩:=h.cells;obtain⟨i0,hi,cU,cW,dz⟩:=info_parts alz;have bY:=U (And.intro hi (And.intro cU (And.intro cW dz)));clear h hi cU cW dz;by_cases bx:st.e=0
 ·have alB:((st.e:Int)==0)=true:=(by rw[bx];rfl);have aV:=U bx;clear bx;go_enter Tryz.func291,Tryz.ntmps291;go_wp2_with (at_builtin;refine yi _ rfl _ _ _ rfl w0.heap.size 413 i0 (.agg #[I 0,I 0]) 2 16 Tryz.underlying345 bY.out.1 bY.out.2.1 bY.out.2.2.1 bY.out.2.2.2 rfl (by omega) v st.ops.length (sJ st.ops) (by rfl) (H.out.own.alloc _) (ag w.heap.size 0) 1 1 [I q,I n] (by rfl) rfl (jW (gi w _)) (by simp[Value.oneCell']) (by unfold maxLen;omega) (by omega) (by have:=H.out.aY.size;simp;omega) ?_;intro v' w' gX i' pJ;obtain⟨g',mE,rfl,_,_⟩:=gX.form (by omega);obtain⟨Dd,q8,awl,_⟩:=H.out.appended i' gX aV.out;have vo:=U Dd;clear Dd gX i' pJ);go_end0;exact⟨rfl,k,_,vo.out⟩
 ·have alB:((st.e:Int)==0)=false:=(by simp;omega);have hp:J (put st q n=st):=(by show _=_;unfold put;rw[aK bx]);clear bx;go_enter Tryz.func291,Tryz.ntmps291;go_wp2_with fail;go_end0;exact⟨rfl,by rw[hp.out];exact⟨k,v,H.out⟩⟩
end rG
namespace qk
open Go.RowKit kG
theorem oq(s:aia)(k:Nat)(h:k<s.size):s.data.toList[k]'(by simpa using h)=s[k]:=by rw[Array.getElem_toList];rfl
theorem PE(s:aia)(k:Nat)(h:k<s.size):s.data.toList.take (k+1)=s.data.toList.take k++[s[k]]:=by rw[x4 (by simpa using h)];rfl
theorem alC(s:aia)(w:bTo)(hs:s.size≤maxLen):
  Calls Tryz.prog 178 #[au s] w fun e w'=>e=bb (.tuple #[I (val (s.data.toList.take (min 6 (bC s.data.toList)))),I (min 6 (bC s.data.toList):Nat)])∧w=w':=by
 unfold maxLen at hs;go_enter Tryz.func178,Tryz.ntmps178;go_wp2
 go_loop [4,5] (fun v i=>∃k:Nat,k≤min 6 (bC s.data.toList)∧i=I k∧v=I (val (s.data.toList.take k))) (fun _ i=>s.size -(intOf i).toNat)
 case atStart=>exact⟨0,eC _,rfl,rfl⟩
 case round=>
  obtain⟨k,ab,rfl,rfl⟩:=hrel;have aj:=r5 s.data.toList;have hh:s.data.toList.length=s.size:=(by simp);have lJ:k≤6:=(by omega);have vp:k≤bC s.data.toList:=(by omega);have yk:=Ei s.data.toList k vp;have aS:val (s.data.toList.take k)<1000000:=jl yk (by have:=vU (n:=10) (by decide) lJ;simpa using this);by_cases b0:k<s.size
  ·by_cases c0:k<6
   ·by_cases hd:48≤s[k].toNat∧s[k].toNat≤57
    ·have cF:J (val (s.data.toList.take (k+1))=val (s.data.toList.take k) *10+(s[k].toNat-48)):=(by rw[PE s k b0];exact NJ _ _);have hn:k<bC s.data.toList:=NK vp (by omega) (by rw[oq s k b0];exact (q7 _).2 hd);obtain⟨gQ,fV⟩:=hd;clear yk hh;go_wp2;go_round
     case rel=>exact⟨k+1,by omega,by go_num,by rw[cF.out];go_num⟩
     case measure=>simp[intOf];omega
    ·have hn:bC s.data.toList=k:=JQ vp (by omega) (by rw[oq s k b0];exact (JO _).2 (by omega));have a1:J (min 6 (bC s.data.toList)=k):=(by show _=_;omega);clear yk hh hn aj ab vp;go_wp2;all_goals (go_ret2;rw[a1.out];exact⟨rfl,rfl⟩)
   ·have a1:J (min 6 (bC s.data.toList)=k):=(by show _=_;omega);clear yk hh aj ab vp;go_wp2;go_ret2;rw[a1.out];exact⟨rfl,rfl⟩
  ·have a1:J (min 6 (bC s.data.toList)=k):=(by show _=_;omega);clear yk hh aj ab vp;go_wp2;go_ret2;rw[a1.out];exact⟨rfl,rfl⟩
theorem Lo(n:Int)(w:bTo):Calls Tryz.prog 189 #[I n] w fun e w'=>e=bb (ai (tj n))∧w=w':=by
 go_enter Tryz.func189,Tryz.ntmps189;by_cases aa:-1000000000000<n
 ·by_cases ah:n<1000000000000
  ·have af:tj n=true:=(by simp[tj,aa,ah]);go_wp2;go_ret;rw[af];exact⟨rfl,rfl⟩
  ·have af:tj n=false:=(by simp[tj,ah]);have aH:=U af;clear af;go_wp2;go_ret;rw[aH.out];exact⟨rfl,rfl⟩
 ·have af:tj n=false:=(by simp[tj,aa]);have aH:=U af;clear af;go_wp2;go_ret;rw[aH.out];exact⟨rfl,rfl⟩
theorem PF(n:Nat):((n:Int)==45)=decide (n=45):=by rw[xO];simp;omega
theorem Lp(s:aia)(l:bk)(aj:J (s.data.toList=l))(w:bTo)(hs:s.size≤9223372036854775807)(k:Nat)(ab:J (k=min 6 (bC l)))(v:Nat)(aS:J (v=val (l.take k))):
  Calls Tryz.prog 178 #[au s] w fun e w'=>e=bb (.tuple #[I v,I k])∧w=w':=by
 have aQ:=aj.out;have aa:=ab.out;have ah:=aS.out;subst aQ;subst aa;subst ah;exact alC s w hs
def zZ(l:bk):Bool:=match l with|[]=>false|c::_=>decide (c.toNat=43)|| decide (c.toNat=45)
theorem Bw(s:aia)(h:0<s.size):s.data.toList=s[0]::s.data.toList.drop 1:=by have:=oq s 0 h;rw[←this];exact (l3 (i:=0) (l:=s.data.toList) (show 0<s.data.toList.length by simpa using h))
theorem Uq(s:aia)(h:¬0<s.size):s.data.toList=[]:=by
 apply qz;have:s.data.toList.length=s.size:=by simp
 omega
theorem Ur(s:aia)(h:0<s.size):zZ s.data.toList=(decide (s[0].toNat=43)|| decide (s[0].toNat=45)):=by rw[Bw s h];rfl
theorem Us(s:aia)(h:¬0<s.size):zZ s.data.toList=false:=by rw[Uq s h];rfl
theorem aaZ(s:aia):(s.extract 1 s.size).data.toList=s.data.toList.drop 1:=by rw[Da];exact zS (by simp)
theorem alD(s:aia)(k:Nat):(s.extract k s.size).data.toList=s.data.toList.drop k:=by rw[Da];exact zS (by simp)
theorem aa0{l:bk}(h:zZ l=false):strip l=(false,l):=by
 cases l with
 |nil=>rfl
 |cons c r=>
  simp[zZ] at h;simp[strip,h]
theorem aa1(s:aia)(h:0<s.size)(hs:zZ s.data.toList=true):strip s.data.toList=(decide (s[0].toNat=45),s.data.toList.drop 1):=by
 rw[Ur s h] at hs;rw[Bw s h];simp only[strip];split
 ·rename_i aa;simp[aa]
 ·rename_i aa;simp[aa] at hs;simp[hs]
theorem aa2{s:aia}(h:zZ s.data.toList=true):0<s.size:=by apply xv;intro hn;rw[Us s hn] at h;cases h
theorem aa3(s:aia)(w:bTo)(hs:s.size≤maxLen):
  Calls Tryz.prog 136 #[au s] w fun e w'=>e=bb (.tuple #[I ((dec s.data.toList).getD 0),ai (dec s.data.toList).isSome])∧w=w':=by
 unfold maxLen at hs;go_enter Tryz.func136,Tryz.ntmps136;go_upto_region 2 with fail;go_cut [21] (fun c fT=>c=ai (zZ s.data.toList)∧w=fT)
 case first=>
  by_cases aQ:0<s.size
  ·have aH:=U (Ur s aQ);have hne:s.toList.isEmpty=false:=(by rw[oY,Bw s aQ];rfl);have HY:¬s.toList=[]:=(by intro h;rw[h] at hne;cases hne);by_cases De:s[0].toNat=43
   all_goals
    go_wp2;go_meet;refine⟨gb Value.bool ?_,rfl⟩;rw[aH.out];simp[De,PF];try omega
  ·have aH:=U (Us s aQ);have hne:s.toList=[]:=(by rw[oY];exact Uq s aQ);go_wp2;go_meet;exact⟨gb Value.bool aH.out.symm,rfl⟩
 case rest=>
  obtain⟨rfl,rfl⟩:=hcut;go_upto_if 21 with fail;go_cut [0,4] (fun a b fT=>∃t:aia,a=au t∧t.size≤9223372036854775807∧t.data.toList=(strip s.data.toList).2∧b=ai (strip s.data.toList).1∧w=fT)
  case first=>
   cases aX:zZ s.data.toList with
   |true=>
    have aQ:=aa2 aX;have cF:=U (aa1 s aQ aX);clear aX;go_wp2;go_meet;rw[cF.out];exact⟨_,rfl,by simp;omega,aaZ s,gb Value.bool (PF _),rfl⟩
   |false=>
    have cF:=U (aa0 aX);clear aX;go_wp2;go_meet;rw[cF.out];exact⟨_,rfl,hs,rfl,rfl,rfl⟩
  case rest=>
   obtain⟨t,rfl,bH,aj,rfl,rfl⟩:=hcut;obtain⟨l,rF⟩:=az t.data.toList;obtain⟨k,ab⟩:∃k,k=min 6 (bC l):=⟨_,rfl⟩;obtain⟨v,aS⟩:∃v,v=val (l.take k):=⟨_,rfl⟩;have PG:v<1000000:=(by rw[aS];exact jl (Ei l k (by omega)) (by have:=vU (n:=10) (by decide) (show k≤6 by omega);simpa using this));have hlen:l.length=t.size:=(by rw[←rF];simp);have awm:k≤t.size:=(by have:=r5 l;omega);have yl:(t.extract k t.size).data.toList=l.drop k:=(by rw[alD,rF]);have Ut:dec s.data.toList=(xw l).map fun n=>if (strip s.data.toList).1 then -(n:Int) else n:=by unfold dec;rw[←aj,rF]
   have dR:=U rF;have cT:=U ab;have cd:=U aS;generalize (strip s.data.toList).1=b at Ut⊢;have cI:=U Ut;clear aj rF aS Ut hlen;rcases hr:l.drop k with _|⟨c,r⟩
   ·have he:(t.extract k t.size).toList=[]:=(by rw[oY,yl,hr]);have hA:=ahZ ab hr;by_cases aQ:k=0
    ·rw[aT aQ] at hA;have b8:=U hA;have nR:((k:Int)==0)=true:=(by simp[aQ]);clear hA aQ yl hr ab;go_wp2_with fail;refine (Lp t l dR _ bH k cT v cd).mono ?_;rintro e w' ⟨rfl,rfl⟩;go_wp2_with fail;go_ret2;rw[cI.out,b8.out];exact⟨rfl,rfl⟩
    ·rw[aK aQ] at hA;have b8:=U hA;have nR:((k:Int)==0)=false:=(by simp[aQ]);clear hA aQ yl hr ab;cases b
     all_goals
      go_wp2_with fail;refine (Lp t l dR _ bH k cT v cd).mono ?_;rintro e w' ⟨rfl,rfl⟩;go_wp2_with fail;go_ret2;rw[cI.out,b8.out,←cd.out];exact⟨rfl,rfl⟩
   ·have Df:0<t.size-k:=(by have:(t.extract k t.size).data.toList.length=t.size-k:=(by simp);rw[yl,hr] at this;simp at this;omega);have hne:(t.extract k t.size).toList.isEmpty=false:=(by rw[oY,yl,hr];rfl);have HY:¬(t.extract k t.size).toList=[]:=(by intro h;rw[h] at hne;cases hne);have hh:0<(t.extract k t.size).size:=(by simpa using Df);have hc:(t.extract k t.size)[0]=c:=(by have:=Bw _ hh;rw[yl,hr] at this;injection this with a b;exact a.symm);by_cases lp:c.toNat=46
    ·obtain⟨m,hm⟩:∃m,m=min 6 (bC r):=⟨_,rfl⟩;obtain⟨d,hd⟩:∃d,d=val (r.take m):=⟨_,rfl⟩;have bZ:=ah2 ab hr lp hm;have ym:d<10^m:=(by rw[hd];exact Ei r m (by omega));have alE:(((t.extract k t.size)[0].toNat:Int)==46)=true:=(by rw[hc];simp;omega);have alF:m≤6:=(by omega);have lJ:k≤6:=(by omega);have r9:r.length+1=t.size-k:=(by have:(t.extract k t.size).data.toList.length=t.size-k:=(by simp);rw[yl,hr] at this;simpa using this);have zW:m≤r.length:=(by have:=r5 r;omega);have hR:((t.extract k t.size).extract 1 (t.size-k)).data.toList=r:=(by rw[Da,yl,hr];exact zS (by simp;omega));have nf:((t.extract k t.size).extract (1+m) (t.size-k)).data.toList=r.drop m:=(by rw[Da,yl,hr,Eh 1 m,Bv];exact zS (by simp;omega));have uF:m+1≤t.size-k:=(by omega);have bB:=U hm;have aa4:=U hd;have ht:=U bZ;have br:=U hR;have eg:=U nf;clear hm hd bZ ab hc lp hR nf r9 yl hr;go_wp2_with fail;refine (Lp t l dR _ bH k cT v cd).mono ?_;rintro e w' ⟨rfl,rfl⟩;go_wp2_with fail;refine (Lp _ r br _ (by simp;omega) m bB d aa4).mono ?_;rintro e w' ⟨rfl,rfl⟩;go_wp2_with fail
     go_loop [7,9] (fun y i=>∃j x:Nat,m≤j∧j≤6∧x=d *10 ^(j-m)∧i=I j∧y=I x) (fun _ i=>(6-intOf i).toNat)
     case atStart=>exact⟨m,d,bD _,alF,by simp,rfl,rfl⟩
     case round=>
      obtain⟨j,x,awn,alG,hx,rfl,rfl⟩:=hrel;have aa5:x<1000000:=(by rw[hx];have aa:d *10 ^(j-m)<10^m *10 ^(j-m):=Pz ym (JK (by decide));rw[←PA,show m+(j-m)=j by omega] at aa;exact jl aa (by have:=vU (n:=10) (by decide) alG;simpa using this));have cV:=U hx;clear hx;by_cases cB:j<6
      ·go_wp2_with fail;go_round
       case rel=>exact⟨j+1,x *10,by omega,by omega,by rw[cV.out,show j+1-m=j-m+1 by omega,AE,R2],by go_num,by go_num⟩
       case measure=>simp[intOf];omega
      ·have alH:J (j=6):=(by show _=_;omega);by_cases bx:r.drop m=[]
       ·have pj:((t.extract k t.size).extract (1+m) (t.size-k)).toList=[]:=(by rw[oY,eg.out,bx]);by_cases aQ:k+m=0
        ·have iE:xw l=none:=(by rw[ht.out,aK (fun h=>h.2 aQ)]);have a1:=U iE;have nR:((k:Int)+(m:Int)==0)=true:=(by simp;omega);clear iE bx aQ;go_wp2_with fail;go_ret2;rw[cI.out,a1.out];exact⟨rfl,rfl⟩
        ·have iE:xw l=some (v *1000000+x):=(by rw[ht.out,aT ⟨bx,aQ⟩,cV.out,aa4.out,cd.out,alH.out]);have a1:=U iE;have nR:((k:Int)+(m:Int)==0)=false:=(by simp;omega);clear iE bx aQ;cases b
         all_goals
          go_wp2_with fail;go_ret2;rw[cI.out,a1.out];exact⟨by simp,rfl⟩
       ·have pj:((t.extract k t.size).extract (1+m) (t.size-k)).toList.isEmpty=false:=by
         rw[oY,eg.out];cases h:r.drop m with
         |nil=>exact absurd h bx
         |cons _ _=>rfl
        have iE:xw l=none:=(by rw[ht.out,aK (fun h=>bx h.1)]);have a1:=U iE;clear iE bx;go_wp2_with fail;go_ret2;rw[cI.out,a1.out];exact⟨rfl,rfl⟩
    ·have bJ:=ah1 ab hr lp;have aH:=U bJ;have alE:(((t.extract k t.size)[0].toNat:Int)==46)=false:=(by rw[hc];simp;omega);clear bJ yl hr ab hc lp;go_wp2_with fail;refine (Lp t l dR _ bH k cT v cd).mono ?_;rintro e w' ⟨rfl,rfl⟩;go_wp2_with fail;go_ret2;rw[cI.out,aH.out];exact⟨rfl,rfl⟩
end qk
namespace qk
open Go.RowKit kG pH
theorem alI:∀i:Fin 10,((⟨#[48,49,50,51,52,53,54,55,56,57]⟩:aia).extract i.val (i.val+1)).data.toList=[UInt8.ofNat (48+i.val)]:=by decide+kernel
theorem alJ(n least:Nat)(aj:least≤20)(x:Int)(hx:J (x=n))(sK:0≤x)(mm:x≤9223372036854775807)(S:aia)(hS:J (S.data.toList=GW n least))(w:bTo):
  Calls Tryz.prog 14 #[I x,I least] w fun e w'=>e=bb (au S)∧w=w':=by
 go_enter Tryz.func14,Tryz.ntmps14;go_wp2
 go_loop [0,5] (fun v i=>∃(k:Nat) (c:Int) (T:aia),k≤max least (uq n)∧0≤c∧c≤9223372036854775807∧c=(n/10^k:Nat)∧T.data.toList=pad n k∧v=I c∧i=au T) (fun v i=>(intOf v).toNat+(20 -(Lib.strSize i)))
 case atStart=>exact⟨0,x,⟨#[]⟩,eC _,sK,mm,by rw[hx.out];simp,rfl,rfl,rfl⟩
 case round=>
  obtain⟨k,c,T,ab,PH,Bm,hc,fh,rfl,rfl⟩:=hrel;have hs:=cR T;rw[fh,R5] at hs;have aa6:=U fh;clear fh;by_cases rH:0<c∨k<least
  ·have ga:k<max least (uq n):=by
    rcases rH with h|h
    ·have:=ah7 (n:=n) (k:=k) (by omega);omega
    ·omega
   have aa7:uq n≤20:=by
    unfold uq;split
    ·omega
    ·exact Lib.nDigits_le20 n (by have:=hx.out;omega)
   have awo:T.size≤20:=(by omega);obtain⟨q,aC⟩:∃q:Nat,q=n/10^k%10:=⟨_,rfl⟩;have alK:q<10:=(by omega);have alL:c%10=(q:Int):=(by omega);have hp:=alI ⟨q,alK⟩;have bL:J ((((⟨#[48,49,50,51,52,53,54,55,56,57]⟩:aia).extract q (q+1))++T).data.toList=pad n (k+1)):=(by show _=_;rw[alp,hp,aa6.out,Yf,Yg,←aC];rfl);have hh:((⟨#[48,49,50,51,52,53,54,55,56,57]⟩:aia).extract q (q+1)).size=1:=(by rw[←cR,hp];rfl);have bq:J (c/10=((n/10 ^(k+1):Nat):Int)):=(by show _=_;rw[AE,←Nat.div_div_eq_div_mul];omega);have Cs:J (((c/10).toNat+(20 -(T.size+1)):Nat)<c.toNat+(20-T.size)):=by show _<_;clear hc hp alL aC bL bq;rcases rH with h|h<;>omega
   have J0:J (¬0<c→T.size<least):=(by show _→_;omega);clear hp hc ab aC hs aa7;by_cases alM:0<c
   ·clear rH;go_wp2;go_round
    case rel=>exact⟨k+1,c/10,_,ga,by omega,by omega,bq.out,bL.out,rfl,rfl⟩
    case measure=>simp only[intOf,Lib.strSize,aaW,hh];have:=Cs.out;rw[Eh 1];exact this
   ·have awp:T.size<least:=J0.out alM;clear rH;go_wp2;go_round
    case rel=>exact⟨k+1,c/10,_,ga,by omega,by omega,bq.out,bL.out,rfl,rfl⟩
    case measure=>simp only[intOf,Lib.strSize,aaW,hh];have:=Cs.out;rw[Eh 1];exact this
  ·have aa:c=0:=(by omega);have ah:¬k<least:=(by omega);have cB:J (max least (uq n)=k):=(by show _=_;have:=ah8 (n:=n) (k:=k) (by omega);omega);have hh:¬T.size<least:=(by omega);subst aa;clear hc ab rH ah hs;go_wp2_with fail;go_ret;exact⟨alo (by rw[hS.out,aa6.out];unfold GW;rw[cB.out]),rfl⟩
theorem alN(n least:Nat)(L:Int)(lU:L=(least:Int))(aj:least≤20)(x:Int)(hx:J (x=n))(sK:0≤x)(mm:x≤9223372036854775807)(S:aia)(hS:J (S.data.toList=GW n least))(w:bTo):
  Calls Tryz.prog 14 #[I x,I L] w fun e w'=>e=bb (au S)∧w=w':=by
 subst lU;exact alJ n least aj x hx sK mm S hS w
end qk
namespace Bits
open Go
theorem alO(n:Int):bits .and .i64 n 3=n%4:=by
 have hm:(BitVec.ofInt 64 3).toNat=2^2-1:=by decide
 have key:(BitVec.ofInt 64 n&&&BitVec.ofInt 64 3).toNat=(n%((2^64:Nat):Int)).toNat%2^2:=by rw[Sg,Sh,hm,Si]
 show bT ((BitVec.ofInt 64 n&&&BitVec.ofInt 64 3).toNat:Nat)=n%4;rw[key,Sj];omega
theorem alP(n:Int):bits .and .i64 n 255=n%256:=by
 have hm:(BitVec.ofInt 64 255).toNat=2^8-1:=by decide
 have key:(BitVec.ofInt 64 n&&&BitVec.ofInt 64 255).toNat=(n%((2^64:Nat):Int)).toNat%2^8:=by rw[Sg,Sh,hm,Si]
 show bT ((BitVec.ofInt 64 n&&&BitVec.ofInt 64 255).toNat:Nat)=n%256;rw[key,Sj];omega
end Bits
