/- Lemmas. -/
import Derived.Below
import Derived.Laws.OwnMore
import Derived.Deep.Draws
import Derived.Shelf.Bytes.SlSmallAll
import Derived.Laws.BytesArg
import Derived.Laws.IdiomStrings
import Derived.Laws.CopyRow
import Derived.OwnWalk
import Derived.Test.YtfldplmgkeiimaaGreatDoorR0
import Derived.Deep.AppendLies
import Derived.Lib.FrozenHead
import Derived.Test.YtfldplmgkeiimaaGreatDoorProg
import Derived.Laws.BitsLemmas
set_option linter.all false
set_option maxRecDepth 100000
set_option maxHeartbeats 800000
namespace Go.Proofs.YtfldplmgkeiimaaGreatDoor
abbrev HX:=@Array.getElem?_eq_none
abbrev Fl:=@Nat.eq_zero_or_pos
abbrev mT:=@List.eq_nil_of_length_eq_zero
abbrev A1:=@cell_of_row
abbrev sg:=@List.getElem?_take
abbrev zj:=@Array.getElem?_modify
abbrev L7:=@Array.toList_setIfInBounds
abbrev L8:=@List.length_set
abbrev Qw:=@List.take_set
abbrev fp:=@congrArg
abbrev tn:=@RowKit.Below.heap_setCell
abbrev mU:=@List.drop_eq_nil_of_le
abbrev gu:=@Ne.symm
abbrev A2:=@RowKit.Below.heap_alloc
abbrev uO:=@wpList_append_own
abbrev j8:=@World.news_of_block
abbrev fJ:=@heap_alloc_new
abbrev Qx:=@Array.getElem_toList
abbrev wy:=@List.take_succ_eq_append_getElem
abbrev dO:=@Nat.zero_le
abbrev km:=@Nat.lt_of_lt_of_le
abbrev wz:=@Nat.pow_le_pow_right
abbrev yc:=@Bool.eq_iff_iff
abbrev mV:=@Lib.toList_data
abbrev L9:=@Nat.add_comm
abbrev uP:=@List.drop_succ_cons
abbrev L':=@Nat.mul_lt_mul_of_pos_right
abbrev HY:=@Nat.pow_pos
abbrev Ma:=@Nat.pow_add
abbrev Wx:=@Nat.and_two_pow_sub_one_eq_mod
abbrev Qy:=@IntKind.wrap_i64
abbrev eL:=@decide_eq_true
abbrev ey:=@decide_eq_false
abbrev CN:=@Bool.false_and
abbrev mx:=@List.getElem?_eq_getElem
abbrev Qz:=@Proofs.Tryz.strings_Count_one
abbrev q5:=@Option.some.inj
abbrev kS:=@beq_eq_false_iff_ne
abbrev QA:=@Bool.false_or
abbrev jR:=@decide_eq_true_eq
abbrev my:=@Nat.not_lt_zero
abbrev kT:=@List.getElem_mem
abbrev HZ:=@List.all_eq_true
abbrev H0:=@Bool.true_and
namespace Mem
open Go.RowKit
def num(l:au):List Int:=l.map fun c=>(c.toNat:Int)
def q6(l:au):List Value:=l.map fun c=>Value.int .u8 (c.toNat:Int)
theorem Wy(l:au):(num l).length=l.length:=by simp[num]
theorem afW(l:au):(q6 l).length=l.length:=by simp[q6]
theorem afX(a b:au):q6 (a++b)=q6 a++q6 b:=by simp[q6]
theorem afY(l:au):Lib.bytesOf (num l)=l:=by
 unfold Lib.bytesOf num;rw[List.map_map]
 conv=>rhs;rw[←List.map_id l]
 apply List.map_congr_left;intro c _;simp
theorem afZ(l:au):strOfNums (num l)=⟨l.toArray⟩:=by unfold strOfNums;have h:=afY l;unfold Lib.bytesOf at h;rw[h]
theorem QB(l:au)(i:Nat)(h:i<l.length):(num l).getD i 0=(l[i].toNat:Int):=by simp[num,List.getD,h]
theorem Wz(l:au)(i:Nat)(h:i<l.length):(q6 l)[i]?=some (.int .u8 (l[i].toNat:Int)):=by simp[q6,h]
def hI(w:aeo)(p:Ja)(l:au):Prop:=Lib.BytesIn w p l.length (num l)
theorem hI.nil(w:aeo)(p:Ja):hI w p []:=Lib.BytesIn.nil w p _
theorem WA{w:aeo}{a:Addr}{u:ada}(h:w.cell? a=some u):a.block<w.heap.size:=by
 rcases Nat.lt_or_ge a.block w.heap.size with fD|fD
 ·exact fD
 ·simp[World.cell?,HX fD] at h
variable{b o B g cap:Nat}{l:au}
theorem hI.cell{w:aeo}(h:hI w (some (aj b o)) l)(i:Nat)(hi:i<l.length):ak w b (o+i) (.int .u8 (l[i].toNat:Int)):=by obtain⟨bc,nD,e,hc⟩:=h.at (by omega);injection e with e;injection e with a7 bf _;subst a7;subst bf;rw[hc i hi,QB l i hi]
variable{p:Ja}
theorem hI.addr{w:aeo}(h:hI w p l)(aA:0<l.length):∃b o,p=some ⟨b,o,none⟩:=by obtain⟨b,o,e,_⟩:=h.at aA;exact⟨b,o,e⟩
theorem hI.of{w:aeo}(h:∀i (hi:i<l.length),ak w b (o+i) (.int .u8 (l[i].toNat:Int))):hI w (some (aj b o)) l:=
 fun _=>⟨b,o,rfl,fun i hi=>by rw[h i hi,QB l i hi]⟩
theorem hI.lt{w:aeo}(h:hI w (some (aj b o)) l)(aA:0<l.length):b<w.heap.size:=WA (h.cell 0 aA)
theorem hI.keep{w w':aeo}(h:hI w p l)(ay:∀a:Addr,(∃u,w.cell? a=some u)→w'.cell? a=w.cell? a):hI w' p l:=by intro aA;obtain⟨b,o,rfl,hc⟩:=h.at aA;exact⟨b,o,rfl,fun i hi=>by rw[ay _ ⟨_,hc i hi⟩];exact hc i hi⟩
theorem hI.below{w w':aeo}(h:hI w p l)(ax:ao w w w'):hI w' p l:=
 h.keep fun a ⟨_,ha⟩=>ax.cell (p:=a) (WA ha)
theorem hI.take{w:aeo}{p:Ja}{l:au}(h:hI w p l)(k:Nat):hI w p (l.take k):=by
 intro aA;have qh:0<l.length:=by simp at aA;omega
 obtain⟨b,o,rfl⟩:=h.addr qh;refine⟨b,o,rfl,fun i hi=>?_⟩;rw[QB _ i hi];have AW:i<l.length:=by simp at hi;omega
 rw[h.cell i AW];simp
theorem hI.drop{w:aeo}{b o:Nat}{l:au}(h:hI w (some (aj b o)) l)(k:Nat):hI w (some (aj b (o+k))) (l.drop k):=by
 refine hI.of fun i hi=>?_;have AW:k+i<l.length:=by simp at hi;omega
 rw[wo,h.cell (k+i) AW];simp
theorem hI.str{P:Program}{w:aeo}(h:hI w p l)(src e dst:aai)(hs:P.underlying src=some (.slice e))(he:P.underlying e=some (.int .u8))(hd:P.underlying dst=some .string)(n c:Nat)(hn:n=l.length):
  (convert src dst (ad p n c)).run P w=.ok (aa ⟨l.toArray⟩) w:=by
 subst hn;rcases Fl l.length with aS|aS
 ·obtain rfl:l=[]:=mT aS;exact Go.Proofs.run_convert_bytes_zero w src e hs he p c dst hd
 ·obtain⟨b,o,rfl,hc⟩:=h.at aS;rw[run_convert_bytes_arg w src e hs he b o l.length c (num l) (Wy l) hc dst hd,afZ]
def Own(w:aeo)(B:Nat)(e:aai)(g cap:Nat)(l:au):Prop:=
 ∃cur dT,B≤g∧w.heap[g]?=some (.cells cur e dT)∧(dT.2=0∨cap≤dT.1)∧l.length≤cap∧cap≤maxLen∧cur.size=cap∧cur.toList.take l.length=q6 l
variable{e:aai}
theorem Own.lt{w:aeo}(h:Own w B e g cap l):g<w.heap.size:=by obtain⟨_,_,_,aF,_⟩:=h;exact (Array.getElem?_eq_some_iff.1 aF).1
theorem Own.ge{w:aeo}(h:Own w B e g cap l):B≤g:=by obtain⟨_,_,ax,_⟩:=h;exact ax
theorem Own.reads{w:aeo}(h:Own w B e g cap l):hI w (some (aj g 0)) l:=by obtain⟨cur,dT,_,aF,_,_,_,_,bE⟩:=h;refine hI.of fun i hi=>?_;rw[j7,A1 w g i cur e dT aF];have:=Wz l i hi;rw[←bE,sg,bb hi] at this;simpa using this
theorem Own.below{w w':aeo}(h:Own w B e g cap l)(ax:ao w w w'):Own w' B e g cap l:=by have aA:=h.lt;obtain⟨cur,dT,av,aF,az⟩:=h;exact⟨cur,dT,av,(ax.block g aA).trans aF,az⟩
theorem Own.set{w:aeo}{B g cap:Nat}{e:aai}{l:au}(h:Own w B e g cap l)(i:Nat)(x:UInt8):Own (w.setCell (aj g i) (.int .u8 (x.toNat:Int))) B e g cap (l.set i x):=by
 obtain⟨cur,dT,ax,aF,nE,QC,yd,iw,bE⟩:=h;refine⟨cur.setIfInBounds i (.int .u8 (x.toNat:Int)),dT,ax,?_,nE,by simpa using QC,yd,by simpa using iw,?_⟩
 ·show (Array.modify _ _ _)[g]?=_;rw[zj,bb rfl,aF];rfl
 ·rw[L7,L8,Qw,bE];unfold q6;rw[List.map_set]
theorem Own.mono{w:aeo}{CO:Nat}(h:Own w B e g cap l)(bK:CO≤B):Own w CO e g cap l:=by obtain⟨cur,dT,av,az⟩:=h;exact⟨cur,dT,by omega,az⟩
section
variable{P:Program}
end
end Mem
namespace pN
open Go.RowKit ig kR wu Mem
theorem CP{k:IntKind}{a b:Int}(h:a=b):Ending.returned (.int k a)=ab (.int k b):=by rw[h]
def q7(l:List (Int×Int)):List Value:=l.flatMap fun o=>[I o.1,I o.2]
theorem af0(a b:List (Int×Int)):q7 (a++b)=q7 a++q7 b:=by simp[q7]
abbrev Mb(S:Ua)(at_ deep:Int)(v:ada)(e:Int):Obj:=.cells #[aa S,I at_,I deep,v,I e] 373
structure hJ(w0:aeo)(S:Ua)(R:Nat)(deep:Nat)(st:du)(k:Nat)(v:ada)(w:aeo):Prop where
 tp:k≤S.size
 rest:S.data.toList.drop k=st.r
 obj:w.heap[R]?=some (Mb S (k:Int) (deep:Int) v (st.e:Int))
 own:w.ownsRow w0.heap.size 413 2 v st.ops.length (q7 st.ops)
 aX:ao w0 w0 w
 ge:w0.heap.size≤R
def pO(w0:aeo)(S:Ua)(R:Nat)(deep:Nat)(st:du)(w:aeo):Prop:=∃k v,hJ w0 S R deep st k v w
section
variable{w0 w w':aeo}{S:Ua}{R deep k:Nat}{st:du}{v:ada}
theorem hJ.cells(h:hJ w0 S R deep st k v w):ak w R 0 (aa S)∧ak w R 1 (I (k:Int))∧ak w R 2 (I (deep:Int))∧ak w R 3 v∧ak w R 4 (I (st.e:Int)):=by have av:=h.obj;refine⟨?_,?_,?_,?_,?_⟩<;>simp[World.cell?,av]
theorem hJ.any(h:hJ w0 S R deep st k v w):pO w0 S R deep st w:=⟨k,v,h⟩
theorem hJ.frozen(h:hJ w0 S R deep st k v w)(o:Nat):w.frozen? ⟨R,o,none⟩=false:=by have av:=h.obj;simp[World.frozen?,av]
theorem hJ.len(h:hJ w0 S R deep st k v w):k+st.r.length=S.size:=by have av:=fp List.length h.rest;rw[fH,cb] at av;have:=h.tp;omega
theorem hJ.lt(h:hJ w0 S R deep st k v w):R<w.heap.size:=(Array.getElem?_eq_some_iff.1 h.obj).1
theorem hJ.ne(h:hJ w0 S R deep st k v w):v.ownBlock≠some R:=by
 rcases h.own.2 with ⟨rfl,_⟩|⟨g,cap,cur,rfl,_,aK,_⟩
 ·simp[Value.ownBlock]
 ·intro he;have:g=R:=(by simpa[Value.ownBlock] using he);subst this;rw[h.obj] at aK;injection aK with aK;injection aK with _ bE;exact absurd bE (by decide)
theorem hJ.drewN(h:hJ w0 S R deep st k v w)(n:Nat):hJ w0 S R deep st k v (w.drewN n):=
 ⟨h.tp,h.rest,h.obj,⟨h.own.1,h.own.2⟩,below_drewN h.aX n,h.ge⟩
theorem hJ.below(h:hJ w0 S R deep st k v w)(ax:ao w w w'):hJ w0 S R deep st k v w':=
 ⟨h.tp,h.rest,(ax.block R h.lt).trans h.obj,h.own.kept (row:=none) ⟨ax.os,ax.tape,ax.output,ax.size,fun k ay _=>ax.block k ay⟩ (by cases v.ownBlock<;>simp),h.aX.trans (ax.mono h.aX.size),h.ge⟩
theorem j9{x:aeo}{b:Nat}{c:ajv}{t:aai}(h:an x b c t)(o:Nat)(u:ada):(x.setCell (aj b o) u).heap[b]?=some (.cells (c.setIfInBounds o u) t):=by show (Array.modify _ _ _)[b]?=_;rw[zj,bb rfl,h];rfl
theorem Mc{x:aeo}{base:Nat}{e:aai}{size n:Nat}{v:ada}{xs:aev}(h:x.ownsRow base e size v n xs){a:Addr}(ha:v.ownBlock≠some a.block)(u:ada):(x.setCell a u).ownsRow base e size v n xs:=
 h.kept (w':=x.setCell a u) (row:=some a.block) ⟨rfl,rfl,rfl,by simp[World.setCell],fun k ay hne=>tn _ _ _ _ (fun e=>hne (by rw[e]))⟩ (.inr ha)
theorem hJ.step(h:hJ w0 S R deep st k v w){r:au}{m:Nat}(hm:m≤S.size)(hr:S.data.toList.drop m=r):hJ w0 S R deep ⟨r,st.ops,st.e⟩ m v (w.setCell (aj R 1) (I (m:Int))):=
 ⟨hm,hr,by rw[j9 h.obj];rfl,Mc h.own h.ne _,h.aX.setCell h.ge _,h.ge⟩
theorem hJ.err(h:hJ w0 S R deep st k v w)(e:Nat):hJ w0 S R deep ⟨st.r,st.ops,e⟩ k v (w.setCell (aj R 4) (I (e:Int))):=
 ⟨h.tp,h.rest,by rw[j9 h.obj];rfl,Mc h.own h.ne _,h.aX.setCell h.ge _,h.ge⟩
theorem hJ.Md(h:hJ w0 S R deep st k v w)(m:Nat):hJ w0 S R m st k v (w.setCell (aj R 2) (I (m:Int))):=
 ⟨h.tp,h.rest,by rw[j9 h.obj];rfl,Mc h.own h.ne _,h.aX.setCell h.ge _,h.ge⟩
end
theorem af1(w:aeo)(a b:Nat):(w.drewN a).drewN b=w.drewN (a+b):=by simp[World.drewN,wo]
def tq(r:au):Int:=((hd r).toNat:Int)
def af2(c:Int)(w:aeo)(e:Ending)(w':aeo):Prop:=∃n,e=ab (.int .u8 c)∧w'=w.drewN n
variable{w0:aeo}{S:Ua}{R deep:Nat}{st:du}{v:ada}
theorem oQ{k:Nat}(w:aeo)(h:af (hJ w0 S R deep st k v w))(c:Int)(hc:af (tq st.r=c)):
  Calls Tryz.prog 290 #[ah R 0] w (af2 c w):=by
 obtain⟨aQ,aN,aJ,c3,bF⟩:=h.out.cells;have ay:=h.out.tp;by_cases bR:k<S.size
 ·obtain⟨X,c7⟩:=ar (S[k].toNat:Int);have QD:af (X=c):=(by show X=c;rw[←hc.out,←c7];unfold tq;have aA:k<S.data.toList.length:=(by rw[cb];exact bR);have av:=lD aA;rw[h.out.rest] at av;rw[av];rfl);go_enter Tryz.func290,Tryz.ntmps290;go_wp2_with fail
  go_quiet (fail)
  go_wp2_with fail
  go_quiet (fail)
  go_wp2_with fail;go_ret;exact⟨_,CP QD.out,af1 _ _ _⟩
 ·have QD:af ((0:Int)=c):=(by show 0=c;rw[←hc.out];have av:=h.out.rest;rw[mU (by rw[cb];omega)] at av;rw[←av];rfl);go_enter Tryz.func290,Tryz.ntmps290;go_wp2_with fail
  go_quiet (fail)
  go_wp2_with fail;go_ret;exact⟨_,CP QD.out,rfl⟩
def Left(w0:aeo)(S:Ua)(R deep:Nat)(st:du)(e:Ending)(w':aeo):Prop:=e=ab (.tuple #[])∧pO w0 S R deep st w'
theorem af3:(Tryz.prog.info? 413).map (fun i=>(i.zero,i.size,i.bytes))=some (some (.agg #[I 0,I 0]),2,16):=by kernel_rfl
theorem af4{x:aeo}{base:Nat}{e:aai}{size n:Nat}{xs:aev}(h:x.ownsRow base e size v n xs):∀k,v.ownBlock=some k→base≤k:=fun k ay=>(World.ownsRowF.lt (World.ownsRowF_of h) k ay).1
theorem hJ.appended{w w':aeo}{k:Nat}{v':ada}{q n:Int}{o:Obj}(h:hJ w0 S R deep st k v w)(aF:(w.alloc o).grownBy w' v.ownBlock)(bm:w'.ownsRow w0.heap.size 413 2 v' (st.ops.length+1) (q7 st.ops++[I q,I n]))(cz:st.e=0):
  hJ w0 S R deep (put st q n) k v' (w'.setCell (aj R 3) v')∧ak w' R 3 v∧w'.frozen? ⟨R,3,none⟩=false∧w'.heap[R]?=some (Mb S (k:Int) (deep:Int) v (st.e:Int)):=by
 have hR:w'.heap[R]?=some (Mb S (k:Int) (deep:Int) v (st.e:Int)):=by rw[aF.block R (by have:=h.lt;simp;omega) (gu h.ne),A2 _ _ _ h.lt,h.obj]
 have hp:put st q n=⟨st.r,st.ops++[(q,n)],0⟩:=by unfold put;rw[bb cz]
 refine⟨?_,by simp[World.cell?,hR],by simp[World.frozen?,hR],hR⟩;rw[hp];refine⟨h.tp,h.rest,by rw[j9 hR,cz];rfl,?_,?_,h.ge⟩
 ·have hne:v'.ownBlock≠some R:=by
   rcases bm.2 with ⟨rfl,_⟩|⟨g,cap,cur,rfl,_,aK,_⟩
   ·simp[Value.ownBlock]
   ·intro he;have:g=R:=(by simpa[Value.ownBlock] using he);subst this;rw[hR] at aK;injection aK with aK;injection aK with _ bE;exact absurd bE (by decide)
  have hx:=Mc bm (a:=⟨R,3,none⟩) hne v';rw[show (st.ops++[(q,n)]).length=st.ops.length+1 by simp,af0];exact hx
 ·exact ((h.aX.alloc h.aX.size o).grown aF (dx h.aX.size (by simp)) (af4 h.own)).setCell h.ge _
theorem wA(w:aeo)(h:pO w0 S R deep st w)(aA:st.ops.length≤1000)(q n:Int):
  Calls Tryz.prog 291 #[ah R 0,I q,I n] w (Left w0 S R deep (put st q n)):=by
 obtain⟨k,v,h⟩:=h;have H:=aq h;obtain⟨aQ,aN,aJ,c3,bF⟩:=h.cells;obtain⟨i0,hi,dy,dJ,dv⟩:=info_parts af3;have b8:=aq (And.intro hi (And.intro dy (And.intro dJ dv)));clear h hi dy dJ dv;by_cases cz:st.e=0
 ·have QE:((st.e:Int)==0)=true:=(by rw[cz];rfl);have aV:=aq cz;clear cz;go_enter Tryz.func291,Tryz.ntmps291;go_wp2_with (at_builtin;refine uO _ rfl _ _ _ rfl w0.heap.size 413 i0 (.agg #[I 0,I 0]) 2 16 Tryz.underlying345 b8.out.1 b8.out.2.1 b8.out.2.2.1 b8.out.2.2.2 rfl (by omega) v st.ops.length (q7 st.ops) (by rfl) (H.out.own.alloc _) (aj w.heap.size 0) 1 1 [I q,I n] (by rfl) rfl (j8 (fJ w _)) (by simp[Value.oneCell']) (by unfold maxLen;omega) (by omega) (by have:=H.out.aX.size;simp;omega) ?_;intro v' w' fR hL nF;obtain⟨g',mW,rfl,_,_⟩:=fR.form (by omega);obtain⟨A3,qe,avt,_⟩:=H.out.appended hL fR aV.out;have tr:=aq A3;clear A3 fR hL nF);go_end0;exact⟨rfl,k,_,tr.out⟩
 ·have QE:((st.e:Int)==0)=false:=(by simp;omega);have hp:af (put st q n=st):=(by show _=_;unfold put;rw[aW cz]);clear cz;go_enter Tryz.func291,Tryz.ntmps291;go_wp2_with fail;go_end0;exact⟨rfl,by rw[hp.out];exact⟨k,v,H.out⟩⟩
end pN
namespace n1
open Go.RowKit ig
theorem nG(s:Ua)(k:Nat)(h:k<s.size):s.data.toList[k]'(by simpa using h)=s[k]:=by rw[Qx];rfl
theorem H2(s:Ua)(k:Nat)(h:k<s.size):s.data.toList.take (k+1)=s.data.toList.take k++[s[k]]:=by rw[wy (by simpa using h)];rfl
theorem af5(s:Ua)(w:aeo)(hs:s.size≤maxLen):
  Calls Tryz.prog 178 #[aa s] w fun e w'=>e=ab (.tuple #[I (val (s.data.toList.take (min 6 (bn s.data.toList)))),I (min 6 (bn s.data.toList):Nat)])∧w=w':=by
 unfold maxLen at hs;go_enter Tryz.func178,Tryz.ntmps178;go_wp2
 go_loop [4,5] (fun v i=>∃k:Nat,k≤min 6 (bn s.data.toList)∧i=I k∧v=I (val (s.data.toList.take k))) (fun _ i=>s.size -(intOf i).toNat)
 case atStart=>exact⟨0,dO _,rfl,rfl⟩
 case round=>
  obtain⟨k,ay,rfl,rfl⟩:=hrel;have aA:=qd s.data.toList;have iF:s.data.toList.length=s.size:=(by simp);have jt:k≤6:=(by omega);have uQ:k≤bn s.data.toList:=(by omega);have zk:=CJ s.data.toList k uQ;have aY:val (s.data.toList.take k)<1000000:=km zk (by have:=wz (n:=10) (by decide) jt;simpa using this);by_cases bR:k<s.size
  ·by_cases c4:k<6
   ·by_cases hd:48≤s[k].toNat∧s[k].toNat≤57
    ·have db:af (val (s.data.toList.take (k+1))=val (s.data.toList.take k) *10+(s[k].toNat-48)):=(by rw[H2 s k bR];exact HU _ _);have hn:k<bn s.data.toList:=HV uQ (by omega) (by rw[nG s k bR];exact (ph _).2 hd);obtain⟨ih,gD⟩:=hd;clear zk iF;go_wp2;go_round
     case rel=>exact⟨k+1,by omega,by go_num,by rw[db.out];go_num⟩
     case measure=>simp[intOf];omega
    ·have hn:bn s.data.toList=k:=CI uQ (by omega) (by rw[nG s k bR];exact (zh _).2 (by omega));have bd:af (min 6 (bn s.data.toList)=k):=(by show _=_;omega);clear zk iF hn aA ay uQ;go_wp2;all_goals (go_ret2;rw[bd.out];exact⟨rfl,rfl⟩)
   ·have bd:af (min 6 (bn s.data.toList)=k):=(by show _=_;omega);clear zk iF aA ay uQ;go_wp2;go_ret2;rw[bd.out];exact⟨rfl,rfl⟩
  ·have bd:af (min 6 (bn s.data.toList)=k):=(by show _=_;omega);clear zk iF aA ay uQ;go_wp2;go_ret2;rw[bd.out];exact⟨rfl,rfl⟩
theorem H3(n:Int)(w:aeo):Calls Tryz.prog 189 #[I n] w fun e w'=>e=ab (U (tk n))∧w=w':=by
 go_enter Tryz.func189,Tryz.ntmps189;by_cases av:-1000000000000<n
 ·by_cases az:n<1000000000000
  ·have ax:tk n=true:=(by simp[tk,av,az]);go_wp2;go_ret;rw[ax];exact⟨rfl,rfl⟩
  ·have ax:tk n=false:=(by simp[tk,az]);have aI:=aq ax;clear ax;go_wp2;go_ret;rw[aI.out];exact⟨rfl,rfl⟩
 ·have ax:tk n=false:=(by simp[tk,av]);have aI:=aq ax;clear ax;go_wp2;go_ret;rw[aI.out];exact⟨rfl,rfl⟩
theorem Me(n:Nat):((n:Int)==45)=decide (n=45):=by rw[yc];simp;omega
theorem H4(s:Ua)(l:au)(aA:af (s.data.toList=l))(w:aeo)(hs:s.size≤9223372036854775807)(k:Nat)(ay:af (k=min 6 (bn l)))(v:Nat)(aY:af (v=val (l.take k))):
  Calls Tryz.prog 178 #[aa s] w fun e w'=>e=ab (.tuple #[I v,I k])∧w=w':=by
 have aS:=aA.out;have av:=ay.out;have az:=aY.out;subst aS;subst av;subst az;exact af5 s w hs
def ye(l:au):Bool:=match l with|[]=>false|c::_=>decide (c.toNat=43)|| decide (c.toNat=45)
theorem zl(s:Ua)(h:0<s.size):s.data.toList=s[0]::s.data.toList.drop 1:=by have:=nG s 0 h;rw[←this];exact (lD (i:=0) (l:=s.data.toList) (show 0<s.data.toList.length by simpa using h))
theorem Mf(s:Ua)(h:¬0<s.size):s.data.toList=[]:=by
 apply mT;have:s.data.toList.length=s.size:=by simp
 omega
theorem QF(s:Ua)(h:0<s.size):ye s.data.toList=(decide (s[0].toNat=43)|| decide (s[0].toNat=45)):=by rw[zl s h];rfl
theorem QG(s:Ua)(h:¬0<s.size):ye s.data.toList=false:=by rw[Mf s h];rfl
theorem WB(s:Ua):(s.extract 1 s.size).data.toList=s.data.toList.drop 1:=by rw[x8];exact wq (by simp)
theorem af6(s:Ua)(k:Nat):(s.extract k s.size).data.toList=s.data.toList.drop k:=by rw[x8];exact wq (by simp)
theorem WC{l:au}(h:ye l=false):strip l=(false,l):=by
 cases l with
 |nil=>rfl
 |cons c r=>
  simp[ye] at h;simp[strip,h]
theorem WD(s:Ua)(h:0<s.size)(hs:ye s.data.toList=true):strip s.data.toList=(decide (s[0].toNat=45),s.data.toList.drop 1):=by
 rw[QF s h] at hs;rw[zl s h];simp only[strip];split
 ·rename_i av;simp[av]
 ·rename_i av;simp[av] at hs;simp[hs]
theorem WE{s:Ua}(h:ye s.data.toList=true):0<s.size:=by apply uK;intro hn;rw[QG s hn] at h;cases h
theorem Mg(s:Ua)(w:aeo)(hs:s.size≤maxLen):
  Calls Tryz.prog 136 #[aa s] w fun e w'=>e=ab (.tuple #[I ((dec s.data.toList).getD 0),U (dec s.data.toList).isSome])∧w=w':=by
 unfold maxLen at hs;go_enter Tryz.func136,Tryz.ntmps136;go_upto_region 2 with fail;go_cut [21] (fun c dw=>c=U (ye s.data.toList)∧w=dw)
 case first=>
  by_cases aS:0<s.size
  ·have aI:=aq (QF s aS);have hne:s.toList.isEmpty=false:=(by rw[mV,zl s aS];rfl);have CQ:¬s.toList=[]:=(by intro h;rw[h] at hne;cases hne);by_cases wB:s[0].toNat=43
   all_goals
    go_wp2;go_meet;refine⟨fp Value.bool ?_,rfl⟩;rw[aI.out];simp[wB,Me];try omega
  ·have aI:=aq (QG s aS);have hne:s.toList=[]:=(by rw[mV];exact Mf s aS);go_wp2;go_meet;exact⟨fp Value.bool aI.out.symm,rfl⟩
 case rest=>
  obtain⟨rfl,rfl⟩:=hcut;go_upto_if 21 with fail;go_cut [0,4] (fun a b dw=>∃t:Ua,a=aa t∧t.size≤9223372036854775807∧t.data.toList=(strip s.data.toList).2∧b=U (strip s.data.toList).1∧w=dw)
  case first=>
   cases aF:ye s.data.toList with
   |true=>
    have aS:=WE aF;have db:=aq (WD s aS aF);clear aF;go_wp2;go_meet;rw[db.out];exact⟨_,rfl,by simp;omega,WB s,fp Value.bool (Me _),rfl⟩
   |false=>
    have db:=aq (WC aF);clear aF;go_wp2;go_meet;rw[db.out];exact⟨_,rfl,hs,rfl,rfl,rfl⟩
  case rest=>
   obtain⟨t,rfl,bE,aA,rfl,rfl⟩:=hcut;obtain⟨l,qh⟩:=ar t.data.toList;obtain⟨k,ay⟩:∃k,k=min 6 (bn l):=⟨_,rfl⟩;obtain⟨v,aY⟩:∃v,v=val (l.take k):=⟨_,rfl⟩;have Mh:v<1000000:=(by rw[aY];exact km (CJ l k (by omega)) (by have:=wz (n:=10) (by decide) (show k≤6 by omega);simpa using this));have hlen:l.length=t.size:=(by rw[←qh];simp);have avu:k≤t.size:=(by have:=qd l;omega);have wC:(t.extract k t.size).data.toList=l.drop k:=(by rw[af6,qh]);have QH:dec s.data.toList=(wt l).map fun n=>if (strip s.data.toList).1 then -(n:Int) else n:=by unfold dec;rw[←aA,qh]
   have dn:=aq qh;have cQ:=aq ay;have b0:=aq aY;generalize (strip s.data.toList).1=b at QH⊢;have cF:=aq QH;clear aA qh aY QH hlen;rcases hr:l.drop k with _|⟨c,r⟩
   ·have he:(t.extract k t.size).toList=[]:=(by rw[mV,wC,hr]);have hA:=aft ay hr;by_cases aS:k=0
    ·rw[bb aS] at hA;have cy:=aq hA;have qi:((k:Int)==0)=true:=(by simp[aS]);clear hA aS wC hr ay;go_wp2_with fail;refine (H4 t l dn _ bE k cQ v b0).mono ?_;rintro e w' ⟨rfl,rfl⟩;go_wp2_with fail;go_ret2;rw[cF.out,cy.out];exact⟨rfl,rfl⟩
    ·rw[aW aS] at hA;have cy:=aq hA;have qi:((k:Int)==0)=false:=(by simp[aS]);clear hA aS wC hr ay;cases b
     all_goals
      go_wp2_with fail;refine (H4 t l dn _ bE k cQ v b0).mono ?_;rintro e w' ⟨rfl,rfl⟩;go_wp2_with fail;go_ret2;rw[cF.out,cy.out,←b0.out];exact⟨rfl,rfl⟩
   ·have A4:0<t.size-k:=(by have:(t.extract k t.size).data.toList.length=t.size-k:=(by simp);rw[wC,hr] at this;simp at this;omega);have hne:(t.extract k t.size).toList.isEmpty=false:=(by rw[mV,wC,hr];rfl);have CQ:¬(t.extract k t.size).toList=[]:=(by intro h;rw[h] at hne;cases hne);have iF:0<(t.extract k t.size).size:=(by simpa using A4);have hc:(t.extract k t.size)[0]=c:=(by have:=zl _ iF;rw[wC,hr] at this;injection this with a b;exact a.symm);by_cases kQ:c.toNat=46
    ·obtain⟨m,hm⟩:∃m,m=min 6 (bn r):=⟨_,rfl⟩;obtain⟨d,hd⟩:∃d,d=val (r.take m):=⟨_,rfl⟩;have b2:=afw ay hr kQ hm;have q8:d<10^m:=(by rw[hd];exact CJ r m (by omega));have af7:(((t.extract k t.size)[0].toNat:Int)==46)=true:=(by rw[hc];simp;omega);have af8:m≤6:=(by omega);have jt:k≤6:=(by omega);have oR:r.length+1=t.size-k:=(by have:(t.extract k t.size).data.toList.length=t.size-k:=(by simp);rw[wC,hr] at this;simpa using this);have wD:m≤r.length:=(by have:=qd r;omega);have hR:((t.extract k t.size).extract 1 (t.size-k)).data.toList=r:=(by rw[x8,wC,hr];exact wq (by simp;omega));have mz:((t.extract k t.size).extract (1+m) (t.size-k)).data.toList=r.drop m:=(by rw[x8,wC,hr,L9 1 m,uP];exact wq (by simp;omega));have tt:m+1≤t.size-k:=(by omega);have bH:=aq hm;have WG:=aq hd;have kn:=aq b2;have bw:=aq hR;have eO:=aq mz;clear hm hd b2 ay hc kQ hR mz oR wC hr;go_wp2_with fail;refine (H4 t l dn _ bE k cQ v b0).mono ?_;rintro e w' ⟨rfl,rfl⟩;go_wp2_with fail;refine (H4 _ r bw _ (by simp;omega) m bH d WG).mono ?_;rintro e w' ⟨rfl,rfl⟩;go_wp2_with fail
     go_loop [7,9] (fun y i=>∃j x:Nat,m≤j∧j≤6∧x=d *10 ^(j-m)∧i=I j∧y=I x) (fun _ i=>(6-intOf i).toNat)
     case atStart=>exact⟨m,d,bx _,af8,by simp,rfl,rfl⟩
     case round=>
      obtain⟨j,x,avv,af9,hx,rfl,rfl⟩:=hrel;have WH:x<1000000:=(by rw[hx];have av:d *10 ^(j-m)<10^m *10 ^(j-m):=L' q8 (HY (by decide));rw[←Ma,show m+(j-m)=j by omega] at av;exact km av (by have:=wz (n:=10) (by decide) af9;simpa using this));have cR:=aq hx;clear hx;by_cases cd:j<6
      ·go_wp2_with fail;go_round
       case rel=>exact⟨j+1,x *10,by omega,by omega,by rw[cR.out,show j+1-m=j-m+1 by omega,Fg,Qm],by go_num,by go_num⟩
       case measure=>simp[intOf];omega
      ·have aga:af (j=6):=(by show _=_;omega);by_cases cz:r.drop m=[]
       ·have wE:((t.extract k t.size).extract (1+m) (t.size-k)).toList=[]:=(by rw[mV,eO.out,cz]);by_cases aS:k+m=0
        ·have hZ:wt l=none:=(by rw[kn.out,aW (fun h=>h.2 aS)]);have bd:=aq hZ;have qi:((k:Int)+(m:Int)==0)=true:=(by simp;omega);clear hZ cz aS;go_wp2_with fail;go_ret2;rw[cF.out,bd.out];exact⟨rfl,rfl⟩
        ·have hZ:wt l=some (v *1000000+x):=(by rw[kn.out,bb ⟨cz,aS⟩,cR.out,WG.out,b0.out,aga.out]);have bd:=aq hZ;have qi:((k:Int)+(m:Int)==0)=false:=(by simp;omega);clear hZ cz aS;cases b
         all_goals
          go_wp2_with fail;go_ret2;rw[cF.out,bd.out];exact⟨by simp,rfl⟩
       ·have wE:((t.extract k t.size).extract (1+m) (t.size-k)).toList.isEmpty=false:=by
         rw[mV,eO.out];cases h:r.drop m with
         |nil=>exact absurd h cz
         |cons _ _=>rfl
        have hZ:wt l=none:=(by rw[kn.out,aW (fun h=>cz h.1)]);have bd:=aq hZ;clear hZ cz;go_wp2_with fail;go_ret2;rw[cF.out,bd.out];exact⟨rfl,rfl⟩
    ·have bK:=afv ay hr kQ;have aI:=aq bK;have af7:(((t.extract k t.size)[0].toNat:Int)==46)=false:=(by rw[hc];simp;omega);clear bK wC hr ay hc kQ;go_wp2_with fail;refine (H4 t l dn _ bE k cQ v b0).mono ?_;rintro e w' ⟨rfl,rfl⟩;go_wp2_with fail;go_ret2;rw[cF.out,aI.out];exact⟨rfl,rfl⟩
end n1
namespace n1
open Go.RowKit ig kR
theorem WI(T:Ua)(h:0<T.size):T.data.toList=(T.extract 0 (T.size-1)).data.toList++[T[T.size-1]]:=by rw[x8];have:=H2 T (T.size-1) (by omega);rw[show T.size-1+1=T.size by omega,wq (by simp)] at this;simpa using this
end n1
namespace Bits
open Go
theorem agb(n:Int):bits .and .i64 n 255=n%256:=by
 have hm:(BitVec.ofInt 64 255).toNat=2^8-1:=by decide
 have key:(BitVec.ofInt 64 n&&&BitVec.ofInt 64 255).toNat=(n%((2^64:Nat):Int)).toNat%2^8:=by rw[BitVec.toNat_and,BitVec.toNat_ofInt,hm,Wx]
 show ae ((BitVec.ofInt 64 n&&&BitVec.ofInt 64 255).toNat:Nat)=n%256;rw[key,Qy];omega
end Bits
namespace pk
open Go.RowKit kR ig n1 zi
theorem dD{a b:Bool}(h:a=b):Ending.returned (U a)=ab (U b):=by rw[h]
theorem agc(c:UInt8)(x:Int)(hx:af ((c.toNat:Int)=x))(b:Bool)(ax:af (L5 c=b))(w:aeo):
  Calls Tryz.prog 113 #[.int .u8 x] w fun e w'=>e=ab (U b)∧w=w':=by
 have hc:=c.toNat_lt;have n2:=hx.out;have lW:=ax.out;unfold L5 at lW;by_cases av:32≤x
 ·by_cases az:x≤126
  ·have aI:af (true=b):=(by show _=_;rw[←lW,eL (by omega),eL (by omega)];rfl);clear n2 lW;go_enter Tryz.func113,Tryz.ntmps113;go_wp2_with fail;go_ret;exact⟨dD aI.out,rfl⟩
  ·have aI:af (false=b):=(by show _=_;rw[←lW,ey (p:=c.toNat≤126) (by omega),Bool.and_false]);clear n2 lW;go_enter Tryz.func113,Tryz.ntmps113;go_wp2_with fail;go_ret;exact⟨dD aI.out,rfl⟩
 ·have aI:af (false=b):=(by show _=_;rw[←lW,ey (p:=32≤c.toNat) (by omega),CN]);clear n2 lW;go_enter Tryz.func113,Tryz.ntmps113;go_wp2_with fail;go_ret;exact⟨dD aI.out,rfl⟩
theorem QI{S:Ua}(h:S.size=0):S=⟨#[]⟩:=hY (mT (by rw[cb];exact h))
theorem CR(S:Ua):(S.toList==[])=decide (S.size=0):=by
 rw[mV];cases h:S.data.toList with
 |nil=>
  have:S.size=0:=(by rw[←cb,h];rfl);rw[this];rfl
 |cons c l=>
  have:S.size≠0:=(by rw[←cb,h];simp);rw[ey this];rfl
theorem WI(S:Ua)(h:0<S.size):S.data.toList.getLast?=some (S[S.size-1]):=by
 rw[List.getLast?_eq_getElem?,cb];have aA:S.size-1<S.data.toList.length:=by rw[cb];omega
 rw[mx aA];simp;rfl
theorem agd(S:Ua)(hs:S.size≤1000000)(n:Int)(hn:af ((CM S.data.toList:Int)=n))(w:aeo):
  Calls Tryz.prog 112 #[aa S] w fun e w'=>e=ab (I n)∧w=w':=by
 obtain⟨k,ay⟩:∃k:Nat,S.data.toList.count 10=k:=⟨_,rfl⟩;have j':k≤S.size:=by rw[←ay,←cb];exact List.count_le_length
 have cQ:af ((Lib.countByte S.data.toList 10:Int)=(k:Int)):=by show _=_;rw[←ay];rfl
 have fe:=hn.out;unfold CM at fe;rw[ay] at fe;by_cases aS:S.size=0
 ·obtain rfl:=QI aS;have bd:af ((k:Int)=n):=(by show _=_;rw[←fe,aW (by rintro⟨h,_⟩;exact h rfl)];rfl);clear fe hn;go_enter Tryz.func112,Tryz.ntmps112;go_wp2_with fail;with_reducible refine (Qz _ 10 _).mono ?_
  rintro e w' ⟨rfl,rfl⟩;rw[cQ.out];go_wp2_with fail;go_ret;exact⟨by rw[bd.out];rfl,rfl⟩
 ·have hne:(S.toList==[])=false:=(by rw[CR];exact ey aS);have hp:0<S.size:=(by omega);have Mi:=WI S hp;obtain⟨c,hc⟩:=ar (S[S.size-1]);rw[hc] at Mi;rw[Mi] at fe;obtain⟨m,hm⟩:∃m:Nat,S.size=m+1:=⟨S.size-1,by omega⟩;have oS:(S.size:Int)-1=(m:Int):=(by omega);have wD:m<S.size:=(by omega);have yd:S[m]=c:=(by rw[←hc];congr 1;omega);have mX:(m:Int)≤1000000:=(by omega);have wF:(k:Int)≤1000000:=(by omega);clear hm;by_cases mw:c=10
  ·have bd:af ((k:Int)=n):=(by show _=_;rw[←fe,aW (by rintro⟨_,h⟩;exact h (by rw[mw]))];rfl);have CS:(c.toNat:Int)=10:=(by rw[mw];rfl);clear fe hn Mi hc mw;go_enter Tryz.func112,Tryz.ntmps112;go_wp2_with fail;with_reducible refine (Qz _ 10 _).mono ?_
   rintro e w' ⟨rfl,rfl⟩;rw[cQ.out];go_wp2_with fail;go_ret;exact⟨by rw[bd.out];rfl,rfl⟩
  ·have bd:af ((k:Int)+1=n):=(by show _=_;rw[←fe,bb ⟨fun h=>by have:=cb S;rw[h] at this;simp at this;omega,fun h=>mw (q5 h)⟩];rfl);have CS:((c.toNat:Int)==10)=false:=(by rw[kS];intro h;exact mw (UInt8.toNat_inj.1 (by show c.toNat=10;omega)));have hw:ae ((k:Int)+1)=(k:Int)+1:=(by rw[Qy];omega);clear fe hn Mi hc;go_enter Tryz.func112,Tryz.ntmps112;go_wp2_with fail;with_reducible refine (Qz _ 10 _).mono ?_
   rintro e w' ⟨rfl,rfl⟩;rw[cQ.out];go_wp2_with fail;go_ret;exact⟨by rw[bd.out];rfl,rfl⟩
theorem age(l:au)(c:UInt8):decide (0≤Lib.indexByte l c)=l.contains c:=by
 induction l with
 |nil=>rfl
 |cons x l cO=>
  unfold Lib.indexByte;rw[List.contains_cons];by_cases h:x=c
  ·subst h;simp
  ·have az:(c==x)=false:=beq_eq_false_iff_ne.2 (gu h);rw[az,QA,←cO];have hx:(x==c)=false:=beq_eq_false_iff_ne.2 h;rw[hx,aW (by decide)];have:=Lib.indexByte_ge l c;by_cases av:Lib.indexByte l c= -1
   ·rw[bb (beq_iff_eq.2 av),av]
   ·rw[aW (fun h=>av (beq_iff_eq.1 h)),yc];simp only[jR];omega
theorem QJ(S:Ua)(h:0<S.size):∃r,S.data.toList=S[0]::r∧(S.extract 1 S.size).data.toList=r:=by
 have av:=jP S 1;cases aA:S.data.toList with
 |nil=>have:=cb S;rw[aA] at this;simp at this;omega
 |cons c r=>
  refine⟨r,?_,by rw[av,aA];rfl⟩
  congr 1
  have aS:0<S.data.toList.length:=(by rw[cb];exact h);have e:S.data.toList[0]=S[0]:=(by simp;rfl);rw[←e];simp[aA]
theorem Fm(S:Ua)(k:Nat)(h:k<S.size):∃aA:k<S.data.toList.length,S.data.toList[k]=S[k]:=⟨by rw[cb];exact h,by simp;rfl⟩
theorem WJ(S:Ua)(hs:S.size≤maxLen)(b:Bool)(ax:af (Fj S.data.toList=b))(w:aeo):
  Calls Tryz.prog 265 #[aa S] w fun e w'=>e=ab (U b)∧w=w':=by
 obtain⟨q,aR⟩:=ar (S.data.toList.contains 46);have a':af (decide (0≤Lib.indexByte S.data.toList 46)=q):=by show _=_;rw[age];exact aR
 have lW:=ax.out;unfold Fj at lW;rw[aR] at lW;have wG:=aq hs;unfold maxLen at hs;cases q with
 |true=>
  rw[bb rfl] at lW;have bT:af ((dec S.data.toList).getD 0=(dec S.data.toList).getD 0∧(dec S.data.toList).isSome=b):=⟨rfl,lW⟩;clear aR lW ax;go_enter Tryz.func265,Tryz.ntmps265;go_wp2_with fail;with_reducible refine (Tryz.strings_Contains_one _ 46 _).mono ?_
  rintro e w' ⟨rfl,rfl⟩;rw[a'.out];go_wp2_with fail;with_reducible refine (Mg S _ wG.out).mono ?_
  rintro e b9 ⟨rfl,rfl⟩;go_wp2_with fail;go_ret;exact⟨dD bT.out.2,rfl⟩
 |false=>
  rw[aW (by decide)] at lW;have aI:af (((bare S.data.toList).all fi&&(decide (1≤(bare S.data.toList).length)&&decide ((bare S.data.toList).length≤12)))=b):=lW;clear aR lW ax;go_enter Tryz.func265,Tryz.ntmps265;go_wp2_with fail;with_reducible refine (Tryz.strings_Contains_one _ 46 _).mono ?_
  rintro e w' ⟨rfl,rfl⟩;rw[a'.out];go_upto_region 4 with fail;go_cut [25] (fun c dw=>c=U (decide (0<S.size∧(S.data.toList.headD 0=43∨S.data.toList.headD 0=45)))∧w'=dw)
  case first=>
   by_cases aS:S.size=0
   ·have hne:(S.toList==[])=true:=(by rw[CR];exact eL aS);go_wp2_with fail;go_meet;exact⟨by rw[ey (by omega)],rfl⟩
   ·have hne:(S.toList==[])=false:=(by rw[CR];exact ey aS);have hp:0<S.size:=(by omega);obtain⟨r,hr,_⟩:=QJ S hp;obtain⟨c,hc⟩:=ar (S[0]);have q8:S.data.toList.headD 0=c:=(by rw[hr,←hc];rfl);clear hr;by_cases wB:c.toNat=43
    ·have Fo:(c.toNat:Int)=43:=(by omega);have ka:c=43:=UInt8.toNat_inj.1 wB;go_wp2_with fail;go_meet;exact⟨by rw[q8,eL ⟨hp,.inl ka⟩],rfl⟩
    ·have Fo:((c.toNat:Int)==43)=false:=(by rw[kS];omega);by_cases CT:c.toNat=45
     ·have agf:(c.toNat:Int)=45:=(by omega);have ka:c=45:=UInt8.toNat_inj.1 CT;go_wp2_with fail;go_meet;exact⟨by rw[q8,eL ⟨hp,.inr ka⟩],rfl⟩
     ·have agf:((c.toNat:Int)==45)=false:=(by rw[kS];omega);go_wp2_with fail;go_meet;refine⟨?_,rfl⟩;rw[q8,ey];rintro⟨_,h|h⟩
      ·exact wB (by rw[show c=43 from h];rfl)
      ·exact CT (by rw[show c=45 from h];rfl)
  case rest=>
  obtain⟨rfl,rfl⟩:=hcut;go_upto_if 25 with fail;go_cut [0] (fun t dw=>∃T:Ua,t=aa T∧af (T.data.toList=bare S.data.toList)∧T.size≤S.size∧w'=dw)
  case first=>
   by_cases h:0<S.size∧(S.data.toList.headD 0=43∨S.data.toList.headD 0=45)
   ·have hd:decide (0<S.size∧(S.data.toList.headD 0=43∨S.data.toList.headD 0=45))=true:=eL h;have hp:=h.1;obtain⟨r,hr,mY⟩:=QJ S hp
    have dr:af ((S.extract 1 S.size).data.toList=bare S.data.toList):=by
     show _=_;rw[mY,hr];rw[hr] at h;show r=if S[0]=43∨S[0]=45 then r else S[0]::r
     rw[bb (show S[0]=43∨S[0]=45 from h.2)]
    have A5:(S.extract 1 S.size).size≤S.size:=(by rw[←cb,jP,fH,cb];omega);rw[hd];go_wp2_with fail;go_meet;exact⟨_,rfl,dr.out,A5,rfl⟩
   ·have hd:decide (0<S.size∧(S.data.toList.headD 0=43∨S.data.toList.headD 0=45))=false:=ey h
    have dr:af (S.data.toList=bare S.data.toList):=by
     show _=_;unfold bare;split
     ·rename_i he;exact he
     ·rename_i c r he;rw[aW]
      ·exact he
      ·intro ka;refine h ⟨?_,by rw[he];exact ka⟩;have:=cb S;rw[he] at this;simp at this;omega
    rw[hd];go_wp2_with fail;go_meet;exact⟨_,rfl,dr.out,bx _,rfl⟩
  case rest=>
  obtain⟨T,rfl,dr,A5,rfl⟩:=hcut;have avw:T.size≤9223372036854775807:=(by omega);clear a';go_wp2_with fail
  go_loop [5] (fun i=>∃j:Nat,j≤T.size∧af (∀k (h:k<T.size),k<j→fi T[k]=true)∧i=I j) (fun i=>T.size -(intOf i).toNat)
  case atStart=>exact⟨0,dO _,fun k _ h=>absurd h (my _),rfl⟩
  case round=>
   obtain⟨j,cd,cG,rfl⟩:=hrel;by_cases bR:j<T.size
   ·obtain⟨c,hc⟩:=ar (T[j]);have WK:af (fi c=false→b=false):=(by intro h;rw[←aI.out,←dr.out];obtain⟨aA,he⟩:=Fm T j bR;have:T.data.toList.all fi=false:=(by rw[List.all_eq_false];exact⟨T.data.toList[j],kT aA,by rw[he,hc,h];decide⟩);rw[this,CN]);by_cases h0:(c.toNat:Int)<48
    ·have aO:af (false=b):=(WK.out ((zh c).2 (by omega))).symm;go_wp2_with fail;go_ret;exact⟨dD aO.out,rfl⟩
    ·by_cases agh:(57:Int)<(c.toNat:Int)
     ·have aO:af (false=b):=(WK.out ((zh c).2 (by omega))).symm;go_wp2_with fail;go_ret;exact⟨dD aO.out,rfl⟩
     ·have b2:fi c=true:=(ph c).2 ⟨by omega,by omega⟩
      have hM:af (∀k (h:k<T.size),k<j+1→fi T[k]=true):=by
       intro k h ay;by_cases H5:k=j
       ·subst H5;rw[hc];exact b2
       ·exact cG.out k h (by omega)
      go_wp2_with fail;go_round
      case rel=>exact⟨j+1,by omega,hM.out,by go_num⟩
      case measure=>simp[intOf];omega
   ·have ix:T.data.toList.all fi=true:=(by rw[HZ];intro x hx;obtain⟨k,ay,rfl⟩:=List.mem_iff_getElem.1 hx;rw[cb] at ay;obtain⟨aA,he⟩:=Fm T k ay;rw[he];exact cG.out k ay (by omega));have aO:af ((decide (1≤T.size)&&decide (T.size≤12))=b):=(by show _=_;rw[←aI.out,←dr.out,ix,H0,cb]);clear ix;by_cases av:(1:Int)≤(T.size:Int)
    ·by_cases avx:(T.size:Int)≤12
     ·have e0:af (true=b):=(by show _=_;rw[←aO.out,eL (by omega),eL (by omega)];rfl);go_wp2_with fail;go_ret;exact⟨dD e0.out,rfl⟩
     ·have e0:af (false=b):=(by show _=_;rw[←aO.out,ey (p:=T.size≤12) (by omega),Bool.and_false]);go_wp2_with fail;go_ret;exact⟨dD e0.out,rfl⟩
    ·have e0:af (false=b):=(by show _=_;rw[←aO.out,ey (p:=1≤T.size) (by omega),CN]);go_wp2_with fail;go_ret;exact⟨dD e0.out,rfl⟩
end pk
