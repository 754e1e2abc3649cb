/- Lemmas. -/
import Derived.Below
import Derived.Laws.OwnMore
import Derived.Deep.Draws
import Derived.Shelf.Bytes.SlSmallAll
import Derived.Laws.BytesArg
import Derived.Laws.IdiomStrings
import Derived.Laws.CopyRow
import Derived.OwnWalk
import Derived.Test.YtfldplmgkeiimaaGreatDoorQ2
import Derived.Deep.AppendLies
import Derived.Lib.FrozenHead
import Derived.Test.YtfldplmgkeiimaaGreatDoorProg
import Derived.Laws.BitsLemmas
set_option linter.all false
set_option maxRecDepth 100000
set_option maxHeartbeats 800000
namespace Go.Proofs.YtfldplmgkeiimaaGreatDoor
abbrev RY:=@Nat.lt_or_ge
abbrev D4:=@Array.getElem?_eq_none
abbrev rQ:=@List.eq_nil_of_length_eq_zero
abbrev Ao:=@Array.getElem?_modify
abbrev RZ:=@Array.toList_setIfInBounds
abbrev NF:=@List.length_set
abbrev R0:=@List.take_set
abbrev uo:=@RowKit.Below.heap_setCell
abbrev n2:=@List.drop_eq_nil_of_le
abbrev gJ:=@Ne.symm
abbrev xq:=@RowKit.Below.heap_alloc
abbrev xr:=@wpList_append_own
abbrev kc:=@World.news_of_block
abbrev ga:=@heap_alloc_new
abbrev y5:=@List.take_succ_eq_append_getElem
abbrev eE:=@Nat.zero_le
abbrev jN:=@Nat.lt_of_lt_of_le
abbrev Cb:=@Bool.eq_iff_iff
abbrev oN:=@Lib.toList_data
abbrev Ap:=@List.drop_succ_cons
abbrev NG:=@Nat.mul_lt_mul_of_pos_right
abbrev NH:=@Nat.pow_add
abbrev NI:=@ByteArray.size_append
abbrev GQ:=@BitVec.toNat_and
abbrev GR:=@BitVec.toNat_ofInt
abbrev GS:=@Nat.and_two_pow_sub_one_eq_mod
abbrev GU:=@IntKind.wrap_i64
abbrev rR:=@List.drop_zero
abbrev Aq:=@Int.tdiv_eq_ediv_of_nonneg
abbrev y7:=@Int.tmod_eq_emod_of_nonneg
namespace Mem
open Go.RowKit
def num(l:au):List Int:=l.map fun c=>(c.toNat:Int)
def rS(l:au):List Value:=l.map fun c=>Value.int .u8 (c.toNat:Int)
theorem YH(l:au):(num l).length=l.length:=by simp[num]
theorem ajJ(l:au):(rS l).length=l.length:=by simp[rS]
theorem ajK(a b:au):rS (a++b)=rS a++rS b:=by simp[rS]
theorem ajL(l:au):Lib.bytesOf (num l)=l:=by
 unfold Lib.bytesOf num;rw[Jt]
 conv=>rhs;rw[←List.map_id l]
 apply Ng;intro c _;simp
theorem ajM(l:au):strOfNums (num l)=⟨l.toArray⟩:=by unfold strOfNums;have h:=ajL l;unfold Lib.bytesOf at h;rw[h]
theorem R2(l:au)(i:Nat)(h:i<l.length):(num l).getD i 0=(l[i].toNat:Int):=by simp[num,List.getD,h]
theorem ajN(l:au)(i:Nat)(h:i<l.length):(rS l)[i]?=some (.int .u8 (l[i].toNat:Int)):=by simp[rS,h]
def jO(w:aeo)(p:Ja)(l:au):Prop:=Lib.BytesIn w p l.length (num l)
theorem jO.nil(w:aeo)(p:Ja):jO w p []:=Lib.BytesIn.nil w p _
theorem YJ{w:aeo}{a:Addr}{u:ada}(h:w.cell? a=some u):a.block<w.heap.size:=by
 rcases RY a.block w.heap.size with e3|e3
 ·exact e3
 ·simp[World.cell?,D4 e3] at h
variable{b o B g cap:Nat}{l:au}
theorem jO.cell{w:aeo}(h:jO w (some (aj b o)) l)(i:Nat)(hi:i<l.length):ak w b (o+i) (.int .u8 (l[i].toNat:Int)):=by obtain⟨bg,uq,e,hc⟩:=h.at (by omega);injection e with e;injection e with a1 a6 _;subst a1;subst a6;rw[hc i hi,R2 l i hi]
variable{p:Ja}
theorem jO.addr{w:aeo}(h:jO w p l)(aA:0<l.length):∃b o,p=some ⟨b,o,none⟩:=by obtain⟨b,o,e,_⟩:=h.at aA;exact⟨b,o,e⟩
theorem jO.of{w:aeo}(h:∀i (hi:i<l.length),ak w b (o+i) (.int .u8 (l[i].toNat:Int))):jO w (some (aj b o)) l:=
 fun _=>⟨b,o,rfl,fun i hi=>by rw[h i hi,R2 l i hi]⟩
theorem jO.lt{w:aeo}(h:jO w (some (aj b o)) l)(aA:0<l.length):b<w.heap.size:=YJ (h.cell 0 aA)
theorem jO.keep{w w':aeo}(h:jO w p l)(ax:∀a:Addr,(∃u,w.cell? a=some u)→w'.cell? a=w.cell? a):jO w' p l:=by intro aA;obtain⟨b,o,rfl,hc⟩:=h.at aA;exact⟨b,o,rfl,fun i hi=>by rw[ax _ ⟨_,hc i hi⟩];exact hc i hi⟩
theorem jO.below{w w':aeo}(h:jO w p l)(ay:ao w w w'):jO w' p l:=
 h.keep fun a ⟨_,ha⟩=>ay.cell (p:=a) (YJ ha)
theorem jO.take{w:aeo}{p:Ja}{l:au}(h:jO w p l)(k:Nat):jO w p (l.take k):=by
 intro aA;have q3:0<l.length:=by simp at aA;omega
 obtain⟨b,o,rfl⟩:=h.addr q3;refine⟨b,o,rfl,fun i hi=>?_⟩;rw[R2 _ i hi];have JB:i<l.length:=by simp at hi;omega
 rw[h.cell i JB];simp
theorem jO.drop{w:aeo}{b o:Nat}{l:au}(h:jO w (some (aj b o)) l)(k:Nat):jO w (some (aj b (o+k))) (l.drop k):=by
 refine jO.of fun i hi=>?_;have JB:k+i<l.length:=by simp at hi;omega
 rw[xe,h.cell (k+i) JB];simp
theorem jO.str{P:Program}{w:aeo}(h:jO w p l)(src e dst:aai)(hs:P.underlying src=some (.slice e))(he:P.underlying e=some (.int .u8))(hd:P.underlying dst=some .string)(n c:Nat)(hn:n=l.length):
  (convert src dst (ad p n c)).run P w=.ok (aa ⟨l.toArray⟩) w:=by
 subst hn;rcases Gs l.length with aT|aT
 ·obtain rfl:l=[]:=rQ aT;exact Go.Proofs.run_convert_bytes_zero w src e hs he p c dst hd
 ·obtain⟨b,o,rfl,hc⟩:=h.at aT;rw[run_convert_bytes_arg w src e hs he b o l.length c (num l) (YH l) hc dst hd,ajM]
def Own(w:aeo)(B:Nat)(e:aai)(g cap:Nat)(l:au):Prop:=
 ∃cur ei,B≤g∧w.heap[g]?=some (.cells cur e ei)∧(ei.2=0∨cap≤ei.1)∧l.length≤cap∧cap≤maxLen∧cur.size=cap∧cur.toList.take l.length=rS l
variable{e:aai}
theorem Own.lt{w:aeo}(h:Own w B e g cap l):g<w.heap.size:=by obtain⟨_,_,_,ba,_⟩:=h;exact (Array.getElem?_eq_some_iff.1 ba).1
theorem Own.ge{w:aeo}(h:Own w B e g cap l):B≤g:=by obtain⟨_,_,ay,_⟩:=h;exact ay
theorem Own.below{w w':aeo}(h:Own w B e g cap l)(ay:ao w w w'):Own w' B e g cap l:=by have aA:=h.lt;obtain⟨cur,ei,av,ba,az⟩:=h;exact⟨cur,ei,av,(ay.block g aA).trans ba,az⟩
theorem Own.set{w:aeo}{B g cap:Nat}{e:aai}{l:au}(h:Own w B e g cap l)(i:Nat)(x:UInt8):Own (w.setCell (aj g i) (.int .u8 (x.toNat:Int))) B e g cap (l.set i x):=by
 obtain⟨cur,ei,ay,ba,n5,JR,y1,gm,bB⟩:=h;refine⟨cur.setIfInBounds i (.int .u8 (x.toNat:Int)),ei,ay,?_,n5,by simpa using JR,y1,by simpa using gm,?_⟩
 ·show (Array.modify _ _ _)[g]?=_;rw[Ao,a8 rfl,ba];rfl
 ·rw[RZ,NF,R0,bB];unfold rS;rw[List.map_set]
theorem Own.mono{w:aeo}{D5:Nat}(h:Own w B e g cap l)(bL:D5≤B):Own w D5 e g cap l:=by obtain⟨cur,ei,av,az⟩:=h;exact⟨cur,ei,by omega,az⟩
section
variable{P:Program}
end
end Mem
namespace p1
open Go.RowKit j6 ny vF Mem
theorem xt{k:IntKind}{a b:Int}(h:a=b):Ending.returned (.int k a)=ab (.int k b):=by rw[h]
def rT(l:List (Int×Int)):List Value:=l.flatMap fun o=>[I o.1,I o.2]
theorem ajO(a b:List (Int×Int)):rT (a++b)=rT a++rT b:=by simp[rT]
abbrev NJ(S:Ua)(at_ deep:Int)(v:ada)(e:Int):Obj:=.cells #[aa S,I at_,I deep,v,I e] 373
structure hT(w0:aeo)(S:Ua)(R:Nat)(deep:Nat)(st:dF)(k:Nat)(v:ada)(w:aeo):Prop where
 ur:k≤S.size
 rest:S.data.toList.drop k=st.r
 obj:w.heap[R]?=some (NJ S (k:Int) (deep:Int) v (st.e:Int))
 own:w.ownsRow w0.heap.size 413 2 v st.ops.length (rT st.ops)
 aZ:ao w0 w0 w
 ge:w0.heap.size≤R
def qy(w0:aeo)(S:Ua)(R:Nat)(deep:Nat)(st:dF)(w:aeo):Prop:=∃k v,hT w0 S R deep st k v w
section
variable{w0 w w':aeo}{S:Ua}{R deep k:Nat}{st:dF}{v:ada}
theorem hT.cells(h:hT w0 S R deep st k v w):ak w R 0 (aa S)∧ak w R 1 (I (k:Int))∧ak w R 2 (I (deep:Int))∧ak w R 3 v∧ak w R 4 (I (st.e:Int)):=by have av:=h.obj;refine⟨?_,?_,?_,?_,?_⟩<;>simp[World.cell?,av]
theorem hT.any(h:hT w0 S R deep st k v w):qy w0 S R deep st w:=⟨k,v,h⟩
theorem hT.frozen(h:hT w0 S R deep st k v w)(o:Nat):w.frozen? ⟨R,o,none⟩=false:=by have av:=h.obj;simp[World.frozen?,av]
theorem hT.len(h:hT w0 S R deep st k v w):k+st.r.length=S.size:=by have av:=fK List.length h.rest;rw[gI,cG] at av;have:=h.ur;omega
theorem hT.lt(h:hT w0 S R deep st k v w):R<w.heap.size:=(Array.getElem?_eq_some_iff.1 h.obj).1
theorem hT.ne(h:hT w0 S R deep st k v w):v.ownBlock≠some R:=by
 rcases h.own.2 with ⟨rfl,_⟩|⟨g,cap,cur,rfl,_,aJ,_⟩
 ·simp[Value.ownBlock]
 ·intro he;have:g=R:=(by simpa[Value.ownBlock] using he);subst this;rw[h.obj] at aJ;injection aJ with aJ;injection aJ with _ bB;exact absurd bB (by decide)
theorem hT.drewN(h:hT w0 S R deep st k v w)(n:Nat):hT w0 S R deep st k v (w.drewN n):=
 ⟨h.ur,h.rest,h.obj,⟨h.own.1,h.own.2⟩,below_drewN h.aZ n,h.ge⟩
theorem hT.below(h:hT w0 S R deep st k v w)(ay:ao w w w'):hT w0 S R deep st k v w':=
 ⟨h.ur,h.rest,(ay.block R h.lt).trans h.obj,h.own.kept (row:=none) ⟨ay.os,ay.tape,ay.output,ay.size,fun k ax _=>ay.block k ax⟩ (by cases v.ownBlock<;>simp),h.aZ.trans (ay.mono h.aZ.size),h.ge⟩
theorem kd{x:aeo}{b:Nat}{c:ajv}{t:aai}(h:an x b c t)(o:Nat)(u:ada):(x.setCell (aj b o) u).heap[b]?=some (.cells (c.setIfInBounds o u) t):=by show (Array.modify _ _ _)[b]?=_;rw[Ao,a8 rfl,h];rfl
theorem NK{x:aeo}{base:Nat}{e:aai}{size n:Nat}{v:ada}{xs:aev}(h:x.ownsRow base e size v n xs){a:Addr}(ha:v.ownBlock≠some a.block)(u:ada):(x.setCell a u).ownsRow base e size v n xs:=
 h.kept (w':=x.setCell a u) (row:=some a.block) ⟨rfl,rfl,rfl,by simp[World.setCell],fun k ax hne=>uo _ _ _ _ (fun e=>hne (by rw[e]))⟩ (.inr ha)
theorem hT.step(h:hT w0 S R deep st k v w){r:au}{m:Nat}(hm:m≤S.size)(hr:S.data.toList.drop m=r):hT w0 S R deep ⟨r,st.ops,st.e⟩ m v (w.setCell (aj R 1) (I (m:Int))):=
 ⟨hm,hr,by rw[kd h.obj];rfl,NK h.own h.ne _,h.aZ.setCell h.ge _,h.ge⟩
theorem hT.err(h:hT w0 S R deep st k v w)(e:Nat):hT w0 S R deep ⟨st.r,st.ops,e⟩ k v (w.setCell (aj R 4) (I (e:Int))):=
 ⟨h.ur,h.rest,by rw[kd h.obj];rfl,NK h.own h.ne _,h.aZ.setCell h.ge _,h.ge⟩
theorem hT.NL(h:hT w0 S R deep st k v w)(m:Nat):hT w0 S R m st k v (w.setCell (aj R 2) (I (m:Int))):=
 ⟨h.ur,h.rest,by rw[kd h.obj];rfl,NK h.own h.ne _,h.aZ.setCell h.ge _,h.ge⟩
end
theorem R3(w:aeo)(a b:Nat):(w.drewN a).drewN b=w.drewN (a+b):=by simp[World.drewN,xe]
def uu(r:au):Int:=((hd r).toNat:Int)
def ajP(c:Int)(w:aeo)(e:Ending)(w':aeo):Prop:=∃n,e=ab (.int .u8 c)∧w'=w.drewN n
variable{w0:aeo}{S:Ua}{R deep:Nat}{st:dF}{v:ada}
theorem mT{k:Nat}(w:aeo)(h:af (hT w0 S R deep st k v w))(c:Int)(hc:af (uu st.r=c)):
  Calls Tryz.prog 290 #[ah R 0] w (ajP c w):=by
 obtain⟨aN,aL,aI,c3,bJ⟩:=h.out.cells;have ax:=h.out.ur;by_cases b1:k<S.size
 ·obtain⟨X,dd⟩:=ar (S[k].toNat:Int);have R4:af (X=c):=(by show X=c;rw[←hc.out,←dd];unfold uu;have aA:k<S.data.toList.length:=(by rw[cG];exact b1);have av:=lT aA;rw[h.out.rest] at av;rw[av];rfl);go_enter Tryz.func290,Tryz.ntmps290;go_wp2_with fail
  go_quiet (fail)
  go_wp2_with fail
  go_quiet (fail)
  go_wp2_with fail;go_ret;exact⟨_,xt R4.out,R3 _ _ _⟩
 ·have R4:af ((0:Int)=c):=(by show 0=c;rw[←hc.out];have av:=h.out.rest;rw[n2 (by rw[cG];omega)] at av;rw[←av];rfl);go_enter Tryz.func290,Tryz.ntmps290;go_wp2_with fail
  go_quiet (fail)
  go_wp2_with fail;go_ret;exact⟨_,xt R4.out,rfl⟩
def Left(w0:aeo)(S:Ua)(R deep:Nat)(st:dF)(e:Ending)(w':aeo):Prop:=e=ab (.tuple #[])∧qy w0 S R deep st w'
theorem ajQ:(Tryz.prog.info? 413).map (fun i=>(i.zero,i.size,i.bytes))=some (some (.agg #[I 0,I 0]),2,16):=by kernel_rfl
theorem ajR{x:aeo}{base:Nat}{e:aai}{size n:Nat}{xs:aev}(h:x.ownsRow base e size v n xs):∀k,v.ownBlock=some k→base≤k:=fun k ax=>(World.ownsRowF.lt (World.ownsRowF_of h) k ax).1
theorem hT.appended{w w':aeo}{k:Nat}{v':ada}{q n:Int}{o:Obj}(h:hT w0 S R deep st k v w)(ba:(w.alloc o).grownBy w' v.ownBlock)(bl:w'.ownsRow w0.heap.size 413 2 v' (st.ops.length+1) (rT st.ops++[I q,I n]))(bn:st.e=0):
  hT w0 S R deep (put st q n) k v' (w'.setCell (aj R 3) v')∧ak w' R 3 v∧w'.frozen? ⟨R,3,none⟩=false∧w'.heap[R]?=some (NJ S (k:Int) (deep:Int) v (st.e:Int)):=by
 have hR:w'.heap[R]?=some (NJ S (k:Int) (deep:Int) v (st.e:Int)):=by rw[ba.block R (by have:=h.lt;simp;omega) (gJ h.ne),xq _ _ _ h.lt,h.obj]
 have hp:put st q n=⟨st.r,st.ops++[(q,n)],0⟩:=by unfold put;rw[a8 bn]
 refine⟨?_,by simp[World.cell?,hR],by simp[World.frozen?,hR],hR⟩;rw[hp];refine⟨h.ur,h.rest,by rw[kd hR,bn];rfl,?_,?_,h.ge⟩
 ·have hne:v'.ownBlock≠some R:=by
   rcases bl.2 with ⟨rfl,_⟩|⟨g,cap,cur,rfl,_,aJ,_⟩
   ·simp[Value.ownBlock]
   ·intro he;have:g=R:=(by simpa[Value.ownBlock] using he);subst this;rw[hR] at aJ;injection aJ with aJ;injection aJ with _ bB;exact absurd bB (by decide)
  have hx:=NK bl (a:=⟨R,3,none⟩) hne v';rw[show (st.ops++[(q,n)]).length=st.ops.length+1 by simp,ajO];exact hx
 ·exact ((h.aZ.alloc h.aZ.size o).grown ba (dB h.aZ.size (by simp)) (ajR h.own)).setCell h.ge _
theorem xu(w:aeo)(h:qy w0 S R deep st w)(aA:st.ops.length≤1000)(q n:Int):
  Calls Tryz.prog 291 #[ah R 0,I q,I n] w (Left w0 S R deep (put st q n)):=by
 obtain⟨k,v,h⟩:=h;have H:=aq h;obtain⟨aN,aL,aI,c3,bJ⟩:=h.cells;obtain⟨i0,hi,dE,dP,dq⟩:=info_parts ajQ;have bZ:=aq (And.intro hi (And.intro dE (And.intro dP dq)));clear h hi dE dP dq;by_cases bn:st.e=0
 ·have ajS:((st.e:Int)==0)=true:=(by rw[bn];rfl);have aX:=aq bn;clear bn;go_enter Tryz.func291,Tryz.ntmps291;go_wp2_with (at_builtin;refine xr _ rfl _ _ _ rfl w0.heap.size 413 i0 (.agg #[I 0,I 0]) 2 16 Tryz.underlying345 bZ.out.1 bZ.out.2.1 bZ.out.2.2.1 bZ.out.2.2.2 rfl (by omega) v st.ops.length (rT st.ops) (by rfl) (H.out.own.alloc _) (aj w.heap.size 0) 1 1 [I q,I n] (by rfl) rfl (kc (ga w _)) (by simp[Value.oneCell']) (by unfold maxLen;omega) (by omega) (by have:=H.out.aZ.size;simp;omega) ?_;intro v' w' gx iB pw;obtain⟨g',mn,rfl,_,_⟩:=gx.form (by omega);obtain⟨rU,qV,awE,_⟩:=H.out.appended iB gx aX.out;have lZ:=aq rU;clear rU gx iB pw);go_end0;exact⟨rfl,k,_,lZ.out⟩
 ·have ajS:((st.e:Int)==0)=false:=(by simp;omega);have hp:af (put st q n=st):=(by show _=_;unfold put;rw[aR bn]);clear bn;go_enter Tryz.func291,Tryz.ntmps291;go_wp2_with fail;go_end0;exact⟨rfl,by rw[hp.out];exact⟨k,v,H.out⟩⟩
end p1
namespace px
open Go.RowKit j6
theorem n7(s:Ua)(k:Nat)(h:k<s.size):s.data.toList[k]'(by simpa using h)=s[k]:=by rw[Array.getElem_toList];rfl
theorem NM(s:Ua)(k:Nat)(h:k<s.size):s.data.toList.take (k+1)=s.data.toList.take k++[s[k]]:=by rw[y5 (by simpa using h)];rfl
theorem ajU(s:Ua)(w:aeo)(hs:s.size≤maxLen):
  Calls Tryz.prog 178 #[aa s] w fun e w'=>e=ab (.tuple #[I (val (s.data.toList.take (min 6 (bA s.data.toList)))),I (min 6 (bA s.data.toList):Nat)])∧w=w':=by
 unfold maxLen at hs;go_enter Tryz.func178,Tryz.ntmps178;go_wp2
 go_loop [4,5] (fun v i=>∃k:Nat,k≤min 6 (bA s.data.toList)∧i=I k∧v=I (val (s.data.toList.take k))) (fun _ i=>s.size -(intOf i).toNat)
 case atStart=>exact⟨0,eE _,rfl,rfl⟩
 case round=>
  obtain⟨k,ax,rfl,rfl⟩:=hrel;have aA:=rD s.data.toList;have gK:s.data.toList.length=s.size:=(by simp);have kK:k≤6:=(by omega);have oO:k≤bA s.data.toList:=(by omega);have y8:=DM s.data.toList k oO;have aS:val (s.data.toList.take k)<1000000:=jN y8 (by have:=vE (n:=10) (by decide) kK;simpa using this);by_cases b1:k<s.size
  ·by_cases cW:k<6
   ·by_cases hd:48≤s[k].toNat∧s[k].toNat≤57
    ·have b7:af (val (s.data.toList.take (k+1))=val (s.data.toList.take k) *10+(s[k].toNat-48)):=(by rw[NM s k b1];exact Nh _ _);have hn:k<bA s.data.toList:=Ni oO (by omega) (by rw[n7 s k b1];exact (qU _).2 hd);obtain⟨hQ,gL⟩:=hd;clear y8 gK;go_wp2;go_round
     case rel=>exact⟨k+1,by omega,by go_num,by rw[b7.out];go_num⟩
     case measure=>simp[intOf];omega
    ·have hn:bA s.data.toList=k:=JA oO (by omega) (by rw[n7 s k b1];exact (Jy _).2 (by omega));have bf:af (min 6 (bA s.data.toList)=k):=(by show _=_;omega);clear y8 gK hn aA ax oO;go_wp2;all_goals (go_ret2;rw[bf.out];exact⟨rfl,rfl⟩)
   ·have bf:af (min 6 (bA s.data.toList)=k):=(by show _=_;omega);clear y8 gK aA ax oO;go_wp2;go_ret2;rw[bf.out];exact⟨rfl,rfl⟩
  ·have bf:af (min 6 (bA s.data.toList)=k):=(by show _=_;omega);clear y8 gK aA ax oO;go_wp2;go_ret2;rw[bf.out];exact⟨rfl,rfl⟩
theorem JS(n:Int)(w:aeo):Calls Tryz.prog 189 #[I n] w fun e w'=>e=ab (U (sL n))∧w=w':=by
 go_enter Tryz.func189,Tryz.ntmps189;by_cases av:-1000000000000<n
 ·by_cases az:n<1000000000000
  ·have ay:sL n=true:=(by simp[sL,av,az]);go_wp2;go_ret;rw[ay];exact⟨rfl,rfl⟩
  ·have ay:sL n=false:=(by simp[sL,az]);have aO:=aq ay;clear ay;go_wp2;go_ret;rw[aO.out];exact⟨rfl,rfl⟩
 ·have ay:sL n=false:=(by simp[sL,av]);have aO:=aq ay;clear ay;go_wp2;go_ret;rw[aO.out];exact⟨rfl,rfl⟩
theorem NN(n:Nat):((n:Int)==45)=decide (n=45):=by rw[Cb];simp;omega
theorem JU(s:Ua)(l:au)(aA:af (s.data.toList=l))(w:aeo)(hs:s.size≤9223372036854775807)(k:Nat)(ax:af (k=min 6 (bA l)))(v:Nat)(aS:af (v=val (l.take k))):
  Calls Tryz.prog 178 #[aa s] w fun e w'=>e=ab (.tuple #[I v,I k])∧w=w':=by
 have aT:=aA.out;have av:=ax.out;have az:=aS.out;subst aT;subst av;subst az;exact ajU s w hs
def y9(l:au):Bool:=match l with|[]=>false|c::_=>decide (c.toNat=43)|| decide (c.toNat=45)
theorem Ar(s:Ua)(h:0<s.size):s.data.toList=s[0]::s.data.toList.drop 1:=by have:=n7 s 0 h;rw[←this];exact (lT (i:=0) (l:=s.data.toList) (show 0<s.data.toList.length by simpa using h))
theorem R5(s:Ua)(h:¬0<s.size):s.data.toList=[]:=by
 apply rQ;have:s.data.toList.length=s.size:=by simp
 omega
theorem R6(s:Ua)(h:0<s.size):y9 s.data.toList=(decide (s[0].toNat=43)|| decide (s[0].toNat=45)):=by rw[Ar s h];rfl
theorem R7(s:Ua)(h:¬0<s.size):y9 s.data.toList=false:=by rw[R5 s h];rfl
theorem YK(s:Ua):(s.extract 1 s.size).data.toList=s.data.toList.drop 1:=by rw[B'];exact vX (by simp)
theorem ajV(s:Ua)(k:Nat):(s.extract k s.size).data.toList=s.data.toList.drop k:=by rw[B'];exact vX (by simp)
theorem YL{l:au}(h:y9 l=false):strip l=(false,l):=by
 cases l with
 |nil=>rfl
 |cons c r=>
  simp[y9] at h;simp[strip,h]
theorem YM(s:Ua)(h:0<s.size)(hs:y9 s.data.toList=true):strip s.data.toList=(decide (s[0].toNat=45),s.data.toList.drop 1):=by
 rw[R6 s h] at hs;rw[Ar s h];simp only[strip];split
 ·rename_i av;simp[av]
 ·rename_i av;simp[av] at hs;simp[hs]
theorem YN{s:Ua}(h:y9 s.data.toList=true):0<s.size:=by apply xd;intro hn;rw[R7 s hn] at h;cases h
theorem YO(s:Ua)(w:aeo)(hs:s.size≤maxLen):
  Calls Tryz.prog 136 #[aa s] w fun e w'=>e=ab (.tuple #[I ((dec s.data.toList).getD 0),U (dec s.data.toList).isSome])∧w=w':=by
 unfold maxLen at hs;go_enter Tryz.func136,Tryz.ntmps136;go_upto_region 2 with fail;go_cut [21] (fun c gy=>c=U (y9 s.data.toList)∧w=gy)
 case first=>
  by_cases aT:0<s.size
  ·have aO:=aq (R6 s aT);have hne:s.toList.isEmpty=false:=(by rw[oN,Ar s aT];rfl);have GV:¬s.toList=[]:=(by intro h;rw[h] at hne;cases hne);by_cases Cc:s[0].toNat=43
   all_goals
    go_wp2;go_meet;refine⟨fK Value.bool ?_,rfl⟩;rw[aO.out];simp[Cc,NN];try omega
  ·have aO:=aq (R7 s aT);have hne:s.toList=[]:=(by rw[oN];exact R5 s aT);go_wp2;go_meet;exact⟨fK Value.bool aO.out.symm,rfl⟩
 case rest=>
  obtain⟨rfl,rfl⟩:=hcut;go_upto_if 21 with fail;go_cut [0,4] (fun a b gy=>∃t:Ua,a=aa t∧t.size≤9223372036854775807∧t.data.toList=(strip s.data.toList).2∧b=U (strip s.data.toList).1∧w=gy)
  case first=>
   cases ba:y9 s.data.toList with
   |true=>
    have aT:=YN ba;have b7:=aq (YM s aT ba);clear ba;go_wp2;go_meet;rw[b7.out];exact⟨_,rfl,by simp;omega,YK s,fK Value.bool (NN _),rfl⟩
   |false=>
    have b7:=aq (YL ba);clear ba;go_wp2;go_meet;rw[b7.out];exact⟨_,rfl,hs,rfl,rfl,rfl⟩
  case rest=>
   obtain⟨t,rfl,bB,aA,rfl,rfl⟩:=hcut;obtain⟨l,q3⟩:=ar t.data.toList;obtain⟨k,ax⟩:∃k,k=min 6 (bA l):=⟨_,rfl⟩;obtain⟨v,aS⟩:∃v,v=val (l.take k):=⟨_,rfl⟩;have NO:v<1000000:=(by rw[aS];exact jN (DM l k (by omega)) (by have:=vE (n:=10) (by decide) (show k≤6 by omega);simpa using this));have hlen:l.length=t.size:=(by rw[←q3];simp);have awF:k≤t.size:=(by have:=rD l;omega);have xv:(t.extract k t.size).data.toList=l.drop k:=(by rw[ajV,q3]);have R8:dec s.data.toList=(xg l).map fun n=>if (strip s.data.toList).1 then -(n:Int) else n:=by unfold dec;rw[←aA,q3]
   have dT:=aq q3;have dn:=aq ax;have b0:=aq aS;generalize (strip s.data.toList).1=b at R8⊢;have di:=aq R8;clear aA q3 aS R8 hlen;rcases hr:l.drop k with _|⟨c,r⟩
   ·have he:(t.extract k t.size).toList=[]:=(by rw[oN,xv,hr]);have hA:=aic ax hr;by_cases aT:k=0
    ·rw[a8 aT] at hA;have cc:=aq hA;have q4:((k:Int)==0)=true:=(by simp[aT]);clear hA aT xv hr ax;go_wp2_with fail;refine (JU t l dT _ bB k dn v b0).mono ?_;rintro e w' ⟨rfl,rfl⟩;go_wp2_with fail;go_ret2;rw[di.out,cc.out];exact⟨rfl,rfl⟩
    ·rw[aR aT] at hA;have cc:=aq hA;have q4:((k:Int)==0)=false:=(by simp[aT]);clear hA aT xv hr ax;cases b
     all_goals
      go_wp2_with fail;refine (JU t l dT _ bB k dn v b0).mono ?_;rintro e w' ⟨rfl,rfl⟩;go_wp2_with fail;go_ret2;rw[di.out,cc.out,←b0.out];exact⟨rfl,rfl⟩
   ·have As:0<t.size-k:=(by have:(t.extract k t.size).data.toList.length=t.size-k:=(by simp);rw[xv,hr] at this;simp at this;omega);have hne:(t.extract k t.size).toList.isEmpty=false:=(by rw[oN,xv,hr];rfl);have GV:¬(t.extract k t.size).toList=[]:=(by intro h;rw[h] at hne;cases hne);have gK:0<(t.extract k t.size).size:=(by simpa using As);have hc:(t.extract k t.size)[0]=c:=(by have:=Ar _ gK;rw[xv,hr] at this;injection this with a b;exact a.symm);by_cases kZ:c.toNat=46
    ·obtain⟨m,hm⟩:∃m,m=min 6 (bA r):=⟨_,rfl⟩;obtain⟨d,hd⟩:∃d,d=val (r.take m):=⟨_,rfl⟩;have cb:=aif ax hr kZ hm;have uv:d<10^m:=(by rw[hd];exact DM r m (by omega));have ajW:(((t.extract k t.size)[0].toNat:Int)==46)=true:=(by rw[hc];simp;omega);have ajX:m≤6:=(by omega);have kK:k≤6:=(by omega);have rV:r.length+1=t.size-k:=(by have:(t.extract k t.size).data.toList.length=t.size-k:=(by simp);rw[xv,hr] at this;simpa using this);have y':m≤r.length:=(by have:=rD r;omega);have hR:((t.extract k t.size).extract 1 (t.size-k)).data.toList=r:=(by rw[B',xv,hr];exact vX (by simp;omega));have mU:((t.extract k t.size).extract (1+m) (t.size-k)).data.toList=r.drop m:=(by rw[B',xv,hr,DL 1 m,Ap];exact vX (by simp;omega));have uw:m+1≤t.size-k:=(by omega);have bM:=aq hm;have YP:=aq hd;have jP:=aq cb;have bq:=aq hR;have eF:=aq mU;clear hm hd cb ax hc kZ hR mU rV xv hr;go_wp2_with fail;refine (JU t l dT _ bB k dn v b0).mono ?_;rintro e w' ⟨rfl,rfl⟩;go_wp2_with fail;refine (JU _ r bq _ (by simp;omega) m bM d YP).mono ?_;rintro e w' ⟨rfl,rfl⟩;go_wp2_with fail
     go_loop [7,9] (fun y i=>∃j x:Nat,m≤j∧j≤6∧x=d *10 ^(j-m)∧i=I j∧y=I x) (fun _ i=>(6-intOf i).toNat)
     case atStart=>exact⟨m,d,bx _,ajX,by simp,rfl,rfl⟩
     case round=>
      obtain⟨j,x,awG,ajY,hx,rfl,rfl⟩:=hrel;have NP:x<1000000:=(by rw[hx];have av:d *10 ^(j-m)<10^m *10 ^(j-m):=NG uv (Ju (by decide));rw[←NH,show m+(j-m)=j by omega] at av;exact jN av (by have:=vE (n:=10) (by decide) ajY;simpa using this));have c2:=aq hx;clear hx;by_cases cr:j<6
      ·go_wp2_with fail;go_round
       case rel=>exact⟨j+1,x *10,by omega,by omega,by rw[c2.out,show j+1-m=j-m+1 by omega,BU,Rh],by go_num,by go_num⟩
       case measure=>simp[intOf];omega
      ·have ajZ:af (j=6):=(by show _=_;omega);by_cases bn:r.drop m=[]
       ·have xw:((t.extract k t.size).extract (1+m) (t.size-k)).toList=[]:=(by rw[oN,eF.out,bn]);by_cases aT:k+m=0
        ·have h5:xg l=none:=(by rw[jP.out,aR (fun h=>h.2 aT)]);have bf:=aq h5;have q4:((k:Int)+(m:Int)==0)=true:=(by simp;omega);clear h5 bn aT;go_wp2_with fail;go_ret2;rw[di.out,bf.out];exact⟨rfl,rfl⟩
        ·have h5:xg l=some (v *1000000+x):=(by rw[jP.out,a8 ⟨bn,aT⟩,c2.out,YP.out,b0.out,ajZ.out]);have bf:=aq h5;have q4:((k:Int)+(m:Int)==0)=false:=(by simp;omega);clear h5 bn aT;cases b
         all_goals
          go_wp2_with fail;go_ret2;rw[di.out,bf.out];exact⟨by simp,rfl⟩
       ·have xw:((t.extract k t.size).extract (1+m) (t.size-k)).toList.isEmpty=false:=by
         rw[oN,eF.out];cases h:r.drop m with
         |nil=>exact absurd h bn
         |cons _ _=>rfl
        have h5:xg l=none:=(by rw[jP.out,aR (fun h=>bn h.1)]);have bf:=aq h5;clear h5 bn;go_wp2_with fail;go_ret2;rw[di.out,bf.out];exact⟨rfl,rfl⟩
    ·have bL:=aie ax hr kZ;have aO:=aq bL;have ajW:(((t.extract k t.size)[0].toNat:Int)==46)=false:=(by rw[hc];simp;omega);clear bL xv hr ax hc kZ;go_wp2_with fail;refine (JU t l dT _ bB k dn v b0).mono ?_;rintro e w' ⟨rfl,rfl⟩;go_wp2_with fail;go_ret2;rw[di.out,aO.out];exact⟨rfl,rfl⟩
end px
namespace px
open Go.RowKit j6 ny
theorem aj0:∀i:Fin 10,((⟨#[48,49,50,51,52,53,54,55,56,57]⟩:Ua).extract i.val (i.val+1)).data.toList=[UInt8.ofNat (48+i.val)]:=by decide+kernel
theorem aj1(n least:Nat)(aA:least≤20)(x:Int)(hx:af (x=n))(rW:0≤x)(l0:x≤9223372036854775807)(S:Ua)(hS:af (S.data.toList=Gt n least))(w:aeo):
  Calls Tryz.prog 14 #[I x,I least] w fun e w'=>e=ab (aa S)∧w=w':=by
 go_enter Tryz.func14,Tryz.ntmps14;go_wp2
 go_loop [0,5] (fun v i=>∃(k:Nat) (c:Int) (T:Ua),k≤max least (uc n)∧0≤c∧c≤9223372036854775807∧c=(n/10^k:Nat)∧T.data.toList=pad n k∧v=I c∧i=aa T) (fun v i=>(intOf v).toNat+(20 -(Lib.strSize i)))
 case atStart=>exact⟨0,x,⟨#[]⟩,eE _,rW,l0,by rw[hx.out];simp,rfl,rfl,rfl⟩
 case round=>
  obtain⟨k,c,T,ax,aj2,At,hc,eS,rfl,rfl⟩:=hrel;have hs:=cG T;rw[eS,Rk] at hs;have YQ:=aq eS;clear eS;by_cases q5:0<c∨k<least
  ·have fT:k<max least (uc n):=by
    rcases q5 with h|h
    ·have:=ail (n:=n) (k:=k) (by omega);omega
    ·omega
   have YR:uc n≤20:=by
    unfold uc;split
    ·omega
    ·exact Lib.nDigits_le20 n (by have:=hx.out;omega)
   have awH:T.size≤20:=(by omega);obtain⟨q,aH⟩:∃q:Nat,q=n/10^k%10:=⟨_,rfl⟩;have aj3:q<10:=(by omega);have aj4:c%10=(q:Int):=(by omega);have hp:=aj0 ⟨q,aj3⟩;have bN:af ((((⟨#[48,49,50,51,52,53,54,55,56,57]⟩:Ua).extract q (q+1))++T).data.toList=pad n (k+1)):=(by show _=_;rw[ajI,hp,YQ.out,Xt,Xu,←aH];rfl);have gK:((⟨#[48,49,50,51,52,53,54,55,56,57]⟩:Ua).extract q (q+1)).size=1:=(by rw[←cG,hp];rfl);have bz:af (c/10=((n/10 ^(k+1):Nat):Int)):=(by show _=_;rw[BU,←Nat.div_div_eq_div_mul];omega);have Cd:af (((c/10).toNat+(20 -(T.size+1)):Nat)<c.toNat+(20-T.size)):=by show _<_;clear hc hp aj4 aH bN bz;rcases q5 with h|h<;>omega
   have GW:af (¬0<c→T.size<least):=(by show _→_;omega);clear hp hc ax aH hs YR;by_cases aj5:0<c
   ·clear q5;go_wp2;go_round
    case rel=>exact⟨k+1,c/10,_,fT,by omega,by omega,bz.out,bN.out,rfl,rfl⟩
    case measure=>simp only[intOf,Lib.strSize,NI,gK];have:=Cd.out;rw[DL 1];exact this
   ·have awI:T.size<least:=GW.out aj5;clear q5;go_wp2;go_round
    case rel=>exact⟨k+1,c/10,_,fT,by omega,by omega,bz.out,bN.out,rfl,rfl⟩
    case measure=>simp only[intOf,Lib.strSize,NI,gK];have:=Cd.out;rw[DL 1];exact this
  ·have av:c=0:=(by omega);have az:¬k<least:=(by omega);have cr:af (max least (uc n)=k):=(by show _=_;have:=aim (n:=n) (k:=k) (by omega);omega);have gK:¬T.size<least:=(by omega);subst av;clear hc ax q5 az hs;go_wp2_with fail;go_ret;exact⟨ajH (by rw[hS.out,YQ.out];unfold Gt;rw[cr.out]),rfl⟩
theorem aj6(n least:Nat)(L:Int)(lu:L=(least:Int))(aA:least≤20)(x:Int)(hx:af (x=n))(rW:0≤x)(l0:x≤9223372036854775807)(S:Ua)(hS:af (S.data.toList=Gt n least))(w:aeo):
  Calls Tryz.prog 14 #[I x,I L] w fun e w'=>e=ab (aa S)∧w=w':=by
 subst lu;exact aj1 n least aA x hx rW l0 S hS w
end px
namespace Bits
open Go
theorem aj7(n:Int):bits .and .i64 n 1=n%2:=by
 have hm:(BitVec.ofInt 64 1).toNat=2^1-1:=by decide
 have key:(BitVec.ofInt 64 n&&&BitVec.ofInt 64 1).toNat=(n%((2^64:Nat):Int)).toNat%2^1:=by rw[GQ,GR,hm,GS]
 show ae ((BitVec.ofInt 64 n&&&BitVec.ofInt 64 1).toNat:Nat)=n%2;rw[key,GU];omega
theorem aj8(n:Int):bits .and .i64 n 3=n%4:=by
 have hm:(BitVec.ofInt 64 3).toNat=2^2-1:=by decide
 have key:(BitVec.ofInt 64 n&&&BitVec.ofInt 64 3).toNat=(n%((2^64:Nat):Int)).toNat%2^2:=by rw[GQ,GR,hm,GS]
 show ae ((BitVec.ofInt 64 n&&&BitVec.ofInt 64 3).toNat:Nat)=n%4;rw[key,GU];omega
theorem GX(n:Int):bits .and .i64 n 7=n%8:=by
 have hm:(BitVec.ofInt 64 7).toNat=2^3-1:=by decide
 have key:(BitVec.ofInt 64 n&&&BitVec.ofInt 64 7).toNat=(n%((2^64:Nat):Int)).toNat%2^3:=by rw[GQ,GR,hm,GS]
 show ae ((BitVec.ofInt 64 n&&&BitVec.ofInt 64 7).toNat:Nat)=n%8;rw[key,GU];omega
theorem aj9(n:Int):bits .and .i64 n 255=n%256:=by
 have hm:(BitVec.ofInt 64 255).toNat=2^8-1:=by decide
 have key:(BitVec.ofInt 64 n&&&BitVec.ofInt 64 255).toNat=(n%((2^64:Nat):Int)).toNat%2^8:=by rw[GQ,GR,hm,GS]
 show ae ((BitVec.ofInt 64 n&&&BitVec.ofInt 64 255).toNat:Nat)=n%256;rw[key,GU];omega
theorem NQ(n:Int):bits .and .i64 n 4095=n%4096:=by
 have hm:(BitVec.ofInt 64 4095).toNat=2^12-1:=by decide
 have key:(BitVec.ofInt 64 n&&&BitVec.ofInt 64 4095).toNat=(n%((2^64:Nat):Int)).toNat%2^12:=by rw[GQ,GR,hm,GS]
 show ae ((BitVec.ofInt 64 n&&&BitVec.ofInt 64 4095).toNat:Nat)=n%4096;rw[key,GU];omega
end Bits
namespace dH
open j6
open bS
open vM (k3 gV rJ YE YF YG RX)
def fN(v:Nat):List UInt8:=Gt v 1
theorem R9(v:Nat):∀c∈fN v,e2 c=true:=by unfold fN;rw[Rn];exact YF v
variable{v:Nat}
theorem Ce(h:v<1000000):1≤(fN v).length∧(fN v).length≤6:=by unfold fN;rw[Rn,Lib.decDigits_length];exact⟨Rg _,(RX (by decide)).2 (by simpa using h)⟩
theorem GY(h:v<1000000):fN v≠[]:=fun e=>by have:=(Ce h).1;rw[e] at this;exact absurd this (by decide)
variable{c d:UInt8}
theorem Sa(h:e2 c=true):48≤c.toNat∧c.toNat≤57:=by simpa[e2] using h
theorem aka:∀{l:au},(∀c∈l,e2 c=true)→strip l=(false,l)
 |[],_=>rfl
 |c::r,h=>by have:=Sa (h c (by simp));show (if c.toNat=43 then (false,r) else if c.toNat=45 then (true,r) else (false,c::r))=_;rw[aR (by omega),aR (by omega)]
theorem akb(h:v<500000):k3 (fN v) 1 2 4 false=some (1000 *v):=by
 obtain⟨av,az⟩:=Ce (v:=v) (by omega);have aS:val (fN v)=v:=by unfold fN;rw[Rn,YG]
 unfold k3;rw[aka (R9 v)];simp only;rw[a8 ⟨by decide,av,by omega,YE (R9 v)⟩,aS];unfold gV
 have e:((v *(if false=true then 10 ^(((2:Int)+4).toNat -(fN v).length) else 1) *10 ^(6 -(4:Int).toNat):Nat):Int)=100 *v:=by
  simp only[pq,yZ,Nat.mul_one];rw[show 6 -(4:Int).toNat=2 by rfl]
  push_cast
  omega
 rw[e];simp only[pq,yZ];have hp:vM.rI 1=10:=rfl;rw[hp,a8 ⟨by simp[sL];omega,by simp,by omega,by omega⟩]
 congr 1
 omega
def ux(x y:au)(d:UInt8):List UInt8:=(if x=[] then[] else 88::x)++((if y=[] then[] else 89::y)++[68,48,d])
def xx(x:au):Prop:=(∀c∈x,e2 c=true)∧x.length≤12
variable{x r y p:au}
theorem akc(h:xx x)(hr:e2 (r.headD 0)=false∧r.headD 0≠43∧r.headD 0≠45):vQ (x++r)=0:=by
 unfold vQ;rw[aR];rintro⟨_,az⟩;cases x with
 |nil=>rcases az with az|az;exact hr.2.1 az;exact hr.2.2 az
 |cons c x=>
  have:=Sa (h.1 c (by simp));rcases az with az|az<;>(simp at az;rw[az] at this;revert this;decide)
theorem akd(hr:e2 (r.headD 0)=false):bA r=0:=by
 cases r with
 |nil=>rfl
 |cons c r=>rw[Jz];simp only[List.headD_cons] at hr;rw[hr];rfl
theorem YS(c:UInt8)(h:xx x)(hn:x≠[])(hr:e2 (r.headD 0)=false∧r.headD 0≠43∧r.headD 0≠45):kG (c::(x++r)) c=(x,r):=by
 have av:1≤x.length:=by cases x with|nil=>exact absurd rfl hn|cons=>simp
 unfold kG;rw[a8 ⟨by simp,rfl⟩];simp only[Ap,rR];rw[akc h hr,rR,Xx x h.1,akd hr.1,aR (by have:=h.2;omega)];simp
theorem NR{t:au}(h:t.headD 0≠c):kG t c=([],t):=by unfold kG;rw[aR (fun e=>h e.2)]
theorem ake(hx:xx x)(hy:xx y)(hd:d=49∨d=50∨d=51):pX (ux x y d)=some {b4 7 with n:=sT [68,48,d],x:=x,y:=y}:=by
 have cb:e2 (([68,48,d]:au).headD 0)=false∧([68,48,d]:au).headD 0≠43∧([68,48,d]:au).headD 0≠45:=⟨rfl,by simp,by simp⟩
 have a6:kG ((if y=[] then[] else 89::y)++[68,48,d]) 89=(y,[68,48,d]):=by
  by_cases h:y=[]
  ·rw[a8 h,h];exact NR (by simp)
  ·rw[aR h];exact YS 89 hy h cb
 have hR:e2 (((if y=[] then[] else 89::y)++[68,48,d]).headD 0)=false∧((if y=[] then[] else 89::y)++[68,48,d]).headD 0≠43∧((if y=[] then[] else 89::y)++[68,48,d]).headD 0≠45∧((if y=[] then[] else 89::y)++[68,48,d]).headD 0≠88:=by split<;>simp<;>decide
 have a1:kG (ux x y d) 88=(x,(if y=[] then[] else 89::y)++[68,48,d]):=by
  unfold ux;by_cases h:x=[]
  ·rw[a8 h,h];exact NR hR.2.2.2
  ·rw[aR h];exact YS 88 hx h ⟨hR.1,hR.2.1,hR.2.2.1⟩
 have ch:kG [68,48,d] 73=([],[68,48,d]):=NR (by simp);have gw:kG [68,48,d] 74=([],[68,48,d]):=NR (by simp);unfold pX;simp only[a1,a6,ch,gw];rw[aR (by rcases hd with rfl|rfl|rfl<;>decide)];rfl
theorem akf(hx:xx x)(hy:xx y)(hd:d=49∨d=50∨d=51)(hn:¬(x=[]∧y=[])):vR (ux x y d)=.ok [{b4 7 with n:=sT [68,48,d],x:=x,y:=y}]:=by
 obtain⟨c,r,hc,he⟩:∃c r,(c=88∨c=89)∧ux x y d=c::r:=by
  unfold ux;by_cases h:x=[]
  ·rw[a8 h,aR (fun e=>hn ⟨h,e⟩)];exact⟨89,_,.inr rfl,rfl⟩
  ·rw[aR h];exact⟨88,_,.inl rfl,rfl⟩
 have bl:=ake hx hy hd;unfold vR qY;rw[bl,he];rcases hc with rfl|rfl<;>simp
theorem YT(h:e2 c=true):wc c=true:=by have:=Sa h;unfold wc;simp only[ix,iO,xf,ne_eq];refine⟨by omega,by omega,?_,?_⟩<;>(rintro rfl;revert this;decide)
theorem akg(hx:xx x)(hy:xx y)(hd:d=49∨d=50∨d=51):GO (ux x y d):=by
 refine⟨fun c hc=>?_,fun e=>by simp[ux] at e,?_⟩
 ·unfold ux at hc;rcases List.mem_append.1 hc with hc|hc
  ·split at hc
   ·cases hc
   ·rcases List.mem_cons.1 hc with rfl|hc
    ·decide
    ·exact YT (hx.1 c hc)
  ·rcases List.mem_append.1 hc with hc|hc
   ·split at hc
    ·cases hc
    ·rcases List.mem_cons.1 hc with rfl|hc
     ·decide
     ·exact YT (hy.1 c hc)
   ·simp only[vU,vV,uj] at hc;rcases hc with rfl|rfl|rfl
    ·decide
    ·decide
    ·rcases hd with rfl|rfl|rfl<;>decide
 ·unfold ux;have:=hx.2;have:=hy.2;rw[hl,hl];split<;>split<;>simp<;>omega
def jk(x y:au)(d:UInt8):gv×C:=(⟨false,ux x y d,[]⟩,{b4 7 with n:=sT [68,48,d],x:=x,y:=y})
theorem akh (hx:xx x) (hy:xx y) (hd:d=49∨d=50∨d=51) (hn:¬(x= []∧y= [])):mm (jk x y d).1 (jk x y d).2:=⟨akg hx hy hd,by simp[jk],by
 show if false=true then _ else _
 rw[aR (by simp)];exact⟨rfl,akf hx hy hd hn⟩⟩
def xy(p:au)(c:C):gv×C:=(⟨false,p,[]⟩,c)
theorem Sb {c:C} (h:vR p= .ok [c]) (hp:p.all wc=true) (hn:p≠ []) (aA:p.length≤10000):mm (xy p c).1 (xy p c).2:=⟨⟨fun c hc=>List.all_eq_true.1 hp c hc,hn,aA⟩,by simp[xy],by
 show if false=true then _ else _
 rw[aR (by simp)];exact⟨rfl,h⟩⟩
def py(p:au)(c:C):gv×C:=(⟨true,p,[]⟩,c)
theorem JV {c:C} (h:ui p= .ok c) (bB:p.take 2≠ [65,77]) (hp:p.all wc=true) (hn:p≠ []) (aA:p.length≤10000):mm (py p c).1 (py p c).2:=⟨⟨fun c hc=>List.all_eq_true.1 hp c hc,hn,aA⟩,by simp[py],by
 show if true=true then _ else _
 rw[a8 rfl];intro a ws hw;have hw:ws=[]:=List.map_eq_nil_iff.1 hw;subst hw;unfold xk;show (if p.take 2≠[65,77] then _ else _)=_;rw[a8 bB];simp[py,h]⟩
def aki(b:Int)(at_:bK)(i1 region:Bool)(cs:List (List bK))(os:List dx)(made:Int):cH:=⟨1,2,4,false,true,fun _=>none,0,[],at_,1,false,i1,h1,region,cs,{GJ with fc:=os},[],made,min (max b 0) 100000,false⟩
theorem Au{c:C}{l:List C}{i:Nat}{p q:cH}(h:j' p c=.ok q):lr (c::l) i p=lr l (i+1) q:=by show (match j' p c with|.error e=>_|.ok q=>_)=_;rw[h]
def YU(x:au)(was v:Int):Prop:=iz (aki 0 (0,0) true true [] [] 0) x was=some v
theorem YV(h:v<500000)(was:Int):YU (fN v) was (1000 *v):=by unfold YU iz;rw[aR (GY (by omega))];exact akb h
theorem YW(h:v<500000):xx (fN v):=⟨R9 v,by have:=(Ce (v:=v) (by omega)).2;omega⟩
end dH
namespace uy
open dH bS
open vM (gV)
def D6(c:C):Except Nat C→Bool
 |.ok d=>decide (d=c)
 |.error _=>false
theorem YX{c:C}{r:Except Nat C}(h:D6 c r=true):r=.ok c:=by
 cases r with
 |error e=>cases h
 |ok d=>rw[show d=c by simpa[D6] using h]
def ku(v:Nat):Int:=(v:Int) *1000000
def NS(i:Nat)(p:cz):List UInt8:=if p.d=true then[65,68,68,50,dg i,67,44,dg p.w] else[65,68,68,50,dg i,82,44,dg p.w,88,dg p.h]
def D7(i:Nat)(p:cz):C:=if p.d=true then {b4 10 with n:=20+i,t:=[67],b6:=[ku p.w]} else {b4 10 with n:=20+i,t:=[82],b6:=[ku p.w,ku p.h]}
def mV(i:Nat)(p:cz):gv×C:=py (NS i p) (D7 i p)
theorem akj:∀i:Nat,i<6→∀w:Nat,w<9→D6 {b4 10 with n:=20+(i:Int),t:=[67],b6:=[ku w]} (ui [65,68,68,50,dg i,67,44,dg w])=true:=by decide+kernel
theorem akk:∀i:Nat,i<6→∀w:Nat,w<9→∀h:Nat,h<9→D6 {b4 10 with n:=20+(i:Int),t:=[82],b6:=[ku w,ku h]} (ui [65,68,68,50,dg i,82,44,dg w,88,dg h])=true:=by decide+kernel
theorem akl{i:Nat}{p:cz}(hi:i<6)(h:p.e7):mm (mV i p).1 (mV i p).2:=by
 have av:=h.w;have az:=h.h;have a1:=D2 (v:=i) (by omega);have a6:=D2 (v:=p.w) (by omega);have ch:=D2 (v:=p.h) (by omega);have dy:wc 65=true:=by decide
 have eU:wc 68=true:=by decide
 have n3:wc 50=true:=by decide
 have n4:wc 67=true:=by decide
 have D8:wc 44=true:=by decide
 have n6:wc 82=true:=by decide
 have akm:wc 88=true:=by decide
 unfold mV NS D7;split
 ·exact JV (YX (akj i hi p.w (by omega))) (by simp) (by simp[a1,a6,dy,eU,n3,n4,D8]) (by simp) (by simp)
 ·exact JV (YX (akk i hi p.w (by omega) p.h (by omega))) (by simp) (by simp[a1,a6,ch,dy,eU,n3,D8,n6,akm]) (by simp) (by simp)
def D9:List (gv×C):=[py [70,83,76,65,88,50,52,89,50,52] {b4 8 with n:=2,m:=4},py [77,79,77,77] {b4 9 with n:=1}]
def jC:gv×C:=py [65,68,68,49,48,84] {b4 10 with n:=10,t:=[84]}
def uz(i:Nat):gv×C:=xy [68,50,dg i] {b4 6 with n:=20+i}
def d10:gv×C:=xy [68,49,48] {b4 6 with n:=10}
def s5:gv×C:=xy [77,48,50] (b4 5)
theorem akn:∀z∈D9,mm z.1 z.2:=by
 intro z bn;unfold D9 at bn;simp only[vU,vV,uj] at bn;rcases bn with rfl|rfl
 ·exact JV (by rfl) (by decide) (by decide) (by decide) (by decide)
 ·exact JV (by rfl) (by decide) (by decide) (by decide) (by decide)
theorem YY:mm jC.1 jC.2:=JV (by rfl) (by decide) (by decide) (by decide) (by decide)
theorem ako:mm d10.1 d10.2:=Sb (by rfl) (by decide) (by decide) (by decide)
theorem YZ:mm s5.1 s5.2:=Sb (by rfl) (by decide) (by decide) (by decide)
theorem akp{i:Nat}(h:i<6):mm (uz i).1 (uz i).2:=by rcases (show i=0∨i=1∨i=2∨i=3∨i=4∨i=5 by omega) with rfl|rfl|rfl|rfl|rfl|rfl<;>exact Sb (by rfl) (by decide) (by decide) (by decide)
def n8:Nat→List cz→List (gv×C)
 |_,[]=>[]
 |i,p::l=>mV i p::n8 (i+1) l
def mW(x y:Nat):Nat→List cz→List (gv×C)
 |_,[]=>[]
 |i,p::l=>uz i::jk (fN (x+10000 *p.a)) (fN (y+10000 *p.b)) 51::mW x y (i+1) l
def head(l:List cz):List (gv×C):=D9++(rP l::n8 0 l)
def vY(x y:Nat)(l:List cz):List (gv×C):=head l++(jC::[d10,jk (fN x) (fN y) 51,s5])
def vZ(x y:Nat)(l:List cz):List (gv×C):=head l++(jC::(mW x y 0 l++[s5]))
theorem Y0:∀(l:List cz) (i:Nat),(∀p∈l,p.e7)→i+l.length≤6→∀z∈n8 i l,mm z.1 z.2
 |[],_,_,_,z,bn=>by cases bn
 |p::l,i,h,aA,z,bn=>by
  simp only[eP] at aA;rcases List.mem_cons.1 bn with rfl|bn
  ·exact akl (by omega) (h p (by simp))
  ·exact Y0 l (i+1) (fun q aH=>h q (by simp[aH])) (by omega) z bn
variable{x y:Nat}
theorem Y1(hx:x<500000)(hy:y<500000):mm (jk (fN x) (fN y) 51).1 (jk (fN x) (fN y) 51).2:=akh (YW hx) (YW hy) (by decide) (fun e=>GY (by omega) e.1)
theorem Y2{x y:Nat}(hx:x<4096)(hy:y<4096):∀(l:List cz) (i:Nat),(∀p∈l,p.e7)→i+l.length≤6→∀z∈mW x y i l,mm z.1 z.2
 |[],_,_,_,z,bn=>by cases bn
 |p::l,i,h,aA,z,bn=>by
  simp only[eP] at aA;have hp:=h p (by simp);have aF:=hp.a;have bk:=hp.b;rcases List.mem_cons.1 bn with rfl|bn
  ·exact akp (by omega)
  ·rcases List.mem_cons.1 bn with rfl|bn
   ·exact Y1 (by omega) (by omega)
   ·exact Y2 hx hy l (i+1) (fun q aH=>h q (by simp[aH])) (by omega) z bn
variable{l:List cz}
theorem Y3(h:∀p∈l,p.e7)(aA:l.length≤6):∀z∈head l,mm z.1 z.2:=by
 intro z bn;unfold head at bn;rcases List.mem_append.1 bn with bn|bn
 ·exact akn z bn
 ·rcases List.mem_cons.1 bn with rfl|bn
  ·exact ajz h aA
  ·exact Y0 l 0 h (by omega) z bn
theorem Y4(hx:x<4096)(hy:y<4096)(h:∀p∈l,p.e7)(aA:l.length≤6):∀z∈vY x y l,mm z.1 z.2:=by
 intro z bn;unfold vY at bn;rcases List.mem_append.1 bn with bn|bn
 ·exact Y3 h aA z bn
 ·simp only[vU,vV,uj] at bn;rcases bn with rfl|rfl|rfl|rfl
  ·exact YY
  ·exact ako
  ·exact Y1 (by omega) (by omega)
  ·exact YZ
theorem Y5(hx:x<4096)(hy:y<4096)(h:∀p∈l,p.e7)(aA:l.length≤6):∀z∈vZ x y l,mm z.1 z.2:=by
 intro z bn;unfold vZ at bn;rcases List.mem_append.1 bn with bn|bn
 ·exact Y3 h aA z bn
 ·rcases List.mem_cons.1 bn with rfl|bn
  ·exact YY
  ·rcases List.mem_append.1 bn with bn|bn
   ·exact Y2 hx hy l 0 h (by omega) z bn
   ·rw[List.mem_singleton.1 bn];exact YZ
def fO(bu:Int)(ms:List jz)(ap:Int→Option ks)(pk:Int)(at_:bK)(os:List dx)(m:Int):cH:=⟨1,2,4,false,true,ap,pk,ms,at_,1,false,true,h1,false,[],{GJ with fc:=os},[],m,min (max bu 0) 100000,false⟩
def GZ(p:cz):cJ:=if p.d=true then k4 (0,0) ((p.w:Int) *5000000) else j8 [lX (-((p.w:Int) *5000000)) (-((p.h:Int) *5000000)) ((p.w:Int) *5000000) ((p.h:Int) *5000000)]
def uA(p:cz):ks:=⟨gX (GZ p),if p.d=true then (p.w:Int) *5000000 else 0,p.d,false,[]⟩
theorem akq{w:Nat}(h:1≤w∧w≤8):gV (ku w) 1=some ((w:Int) *10000000):=by rcases (show w=1∨w=2∨w=3∨w=4∨w=5∨w=6∨w=7∨w=8 by omega) with rfl|rfl|rfl|rfl|rfl|rfl|rfl|rfl<;>decide
theorem Sc{w:Nat}(h:1≤w∧w≤8)(s i:Nat)(l:List Int):mP s 1 (ku w::l) i=match mP s 1 l (i+1) with|.error e=>.error e|.ok r=>.ok ((w:Int) *5000000::r):=by
 have az:((w:Int) *10000000).tdiv 2=(w:Int) *5000000:=by rw[Aq (by omega)];omega
 have aF:((w:Int) *10000000).tmod 2=0:=by rw[y7 (by omega)];omega
 rw[mP,akq h];simp only;rw[aR (by omega),aR (by rw[aF];simp),az];cases mP s 1 l (i+1)<;>rfl
theorem Sd(p:cz)(h:p.e7)(ms:List jz):j9 (if p.d=true then[67] else[82]) (if p.d=true then[ku p.w] else[ku p.w,ku p.h]) 1 ms=.ok ((uA p).cF,(uA p).r):=by
 have av:=h.w;have az:=h.h;have a1:mP 1 1 [ku p.w] 0=.ok [(p.w:Int) *5000000]:=by rw[Sc av];rfl
 have a6:mP 2 1 [ku p.w,ku p.h] 0=.ok [(p.w:Int) *5000000,(p.h:Int) *5000000]:=by rw[Sc av,Sc az];rfl
 have n0:¬(p.w:Int) *5000000=0:=by omega
 unfold uA GZ;cases hd:p.d with
 |true=>
  simp only[sZ];unfold j9;rw[a8 (.inl rfl)];simp[a1,y0,GH,n0]
 |false=>
  simp only[pq,yZ];unfold j9;rw[a8 (.inr (.inl rfl))];simp[a6,y0,Nu,lX]
end uy
