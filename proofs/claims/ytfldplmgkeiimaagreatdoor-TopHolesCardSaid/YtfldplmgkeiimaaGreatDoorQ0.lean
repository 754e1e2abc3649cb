/- Lemmas. -/
import Derived.Lib.ItoaLen
import Derived.Lib.TrimByte
import Derived.Below
import Derived.Laws.OwnMore
import Derived.Test.YtfldplmgkeiimaaGreatDoorProg
import Derived.WalkKit
import Derived.WalkSpells
import Derived.WalkLawsBesides
import Derived.Lib.Hide
import Derived.Deep.DeepCutAuto
import Derived.Deep.CutRange
import Derived.BigQuiet
import Derived.Deep.QuietTactic
import Derived.Outline
import Derived.Deep.DeepFit
set_option linter.all false
set_option maxRecDepth 100000
set_option maxHeartbeats 3200000
namespace Go.Proofs.YtfldplmgkeiimaaGreatDoor
abbrev y8:=@Bool.eq_false_iff
abbrev RY:=@List.takeWhile_cons
abbrev aT:=@if_pos
abbrev aK:=@if_neg
abbrev AE:=@Nat.pow_succ
abbrev mR:=@List.foldl_cons
abbrev fK:=@List.length_cons
abbrev uo:=@List.take_length
abbrev xv:=@Classical.byContradiction
abbrev l3:=@List.drop_eq_getElem_cons
abbrev r4:=@List.map_cons
abbrev RZ:=@Lib.lt_pow_nDigits
abbrev vU:=@Nat.pow_le_pow_right
abbrev JK:=@Nat.pow_pos
abbrev R0:=@Lib.nDigits_pos
abbrev y9:=@List.length_reverse
abbrev Eg:=@Nat.zero_mul
abbrev lk:=@Nat.zero_add
abbrev R2:=@Nat.mul_assoc
abbrev R3:=@Nat.mul_comm
abbrev y':=@Nat.add_assoc
abbrev Eh:=@Nat.add_comm
abbrev JL:=@List.cons_append
abbrev bD:=@Nat.le_refl
abbrev gZ:=@List.length_drop
abbrev dX:=@Nat.le_trans
abbrev gh:=@List.length_append
abbrev th:=@List.length_nil
abbrev l4:=@Nat.le_succ
abbrev mv:=@Option.some.injEq
abbrev GV:=@Nat.eq_zero_or_pos
abbrev jl:=@Nat.lt_of_lt_of_le
abbrev jZ:=@RowKit.Below.heap_setCell
abbrev eC:=@Nat.zero_le
abbrev nz:=@Nat.lt_irrefl
abbrev qz:=@List.eq_nil_of_length_eq_zero
abbrev X':=@List.take_append_of_le_length
abbrev Ya:=@List.drop_append_of_le_length
abbrev ti:=@List.getElem?_take
abbrev AF:=@List.getElem?_drop
abbrev gy:=@Bool.and_eq_true
abbrev gH:=@decide_eq_true_eq
abbrev oE:=@Bool.false_eq_true
abbrev R4:=@List.sum_cons
abbrev eD:=@decide_eq_false
abbrev NI:=@Bool.false_and
abbrev AG:=@List.all_cons
abbrev b4:=@IntWalk.i64_in
abbrev JM:=@Bool.true_and
abbrev n7:=@List.drop_eq_nil_of_le
structure IT where
instance:CoeFun IT fun _=>Int→Value:=⟨fun _=>.int .i64⟩
def I:IT:=⟨⟩
structure ayT where
instance:CoeFun ayT fun _=>Nat→Value:=⟨fun _=>.slice none 0⟩
def ay:ayT:=⟨⟩
structure aiT where
instance:CoeFun aiT fun _=>Bool→Value:=⟨fun _=>.bool⟩
def ai:aiT:=⟨⟩
structure auT where
instance:CoeFun auT fun _=>ByteArray→Value:=⟨fun _=>.string⟩
def au:auT:=⟨⟩
structure bbT where
instance:CoeFun bbT fun _=>Value→Ending:=⟨fun _=>.returned⟩
def bb:bbT:=⟨⟩
structure adT where
instance:CoeFun adT fun _=>Option Addr→Nat→Nat→Value:=⟨fun _=>.slice⟩
def ad:adT:=⟨⟩
structure bTT where
instance:CoeFun bTT fun _=>Int→Int:=⟨fun _=>IntKind.i64.wrap⟩
def bT:bTT:=⟨⟩
structure JT where
instance:CoeFun JT fun _=>Prop→Prop:=⟨fun _=>RowKit.Hid⟩
def J:JT:=⟨⟩
structure bGT(b o n c:Nat) where
def bG(b o n c:Nat):bGT b o n c:=⟨⟩
instance(b o n c:Nat):CoeOut (bGT b o n c) Value:=⟨fun _=>.slice (some ⟨b,o,none⟩) n c⟩
structure dvT(b o:Nat) where
def dv(b o:Nat):dvT b o:=⟨⟩
instance(b o:Nat):CoeOut (dvT b o) Value:=⟨fun _=>.pointer (some ⟨b,o,none⟩)⟩
structure aDT(x:Array Value)(t:TypeId) where
def aD(x:Array Value)(t:TypeId):aDT x t:=⟨⟩
instance(x:Array Value)(t:TypeId):CoeOut (aDT x t) Obj:=⟨fun _=>.cells x t⟩
structure agT(b o:Nat) where
def ag(b o:Nat):agT b o:=⟨⟩
instance(b o:Nat):CoeOut (agT b o) Addr:=⟨fun _=>⟨b,o,none⟩⟩
structure awT(w:World)(b o:Nat)(v:Value) where
def aw(w:World)(b o:Nat)(v:Value):awT w b o v:=⟨⟩
instance(w:World)(b o:Nat)(v:Value):CoeOut (awT w b o v) Prop:=⟨fun _=>w.cell? ⟨b,o,none⟩=some v⟩
instance(w:World)(b o:Nat)(v:Value):CoeSort (awT w b o v) Prop:=⟨fun _=>w.cell? ⟨b,o,none⟩=some v⟩
structure boT(w:World)(b:Nat)(x:Array Value)(t:TypeId) where
def bo(w:World)(b:Nat)(x:Array Value)(t:TypeId):boT w b x t:=⟨⟩
instance(w:World)(b:Nat)(x:Array Value)(t:TypeId):CoeOut (boT w b x t) Prop:=⟨fun _=>w.heap[b]?=some (.cells x t)⟩
instance(w:World)(b:Nat)(x:Array Value)(t:TypeId):CoeSort (boT w b x t) Prop:=⟨fun _=>w.heap[b]?=some (.cells x t)⟩
structure avT(w x y:World) where
def av(w x y:World):avT w x y:=⟨⟩
instance(w x y:World):CoeOut (avT w x y) Prop:=⟨fun _=>RowKit.Below w.heap.size x y⟩
instance(w x y:World):CoeSort (avT w x y) Prop:=⟨fun _=>RowKit.Below w.heap.size x y⟩
theorem U{p:Prop}(h:p):RowKit.Hid p:=h
theorem az{A:Sort _}(a:A):∃x,a=x:=⟨a,rfl⟩
structure bkT where
instance:CoeSort bkT Type:=⟨fun _=>List UInt8⟩
def bk:bkT:=⟨⟩
structure bTJN where
instance:CoeSort bTJN Type:=⟨fun _=>List Value⟩
def bTv:bTJN:=⟨⟩
structure agJN where
instance:CoeSort agJN Type:=⟨fun _=>Array Value⟩
def agv:agJN:=⟨⟩
structure ayCi where
instance:CoeSort ayCi Type:=⟨fun _=>Option Addr⟩
def aya:ayCi:=⟨⟩
structure JYb where
instance:CoeSort JYb Type:=⟨fun _=>Nat→Prop⟩
def Jp:JYb:=⟨⟩
structure bTYc where
instance:CoeSort bTYc Type:=⟨fun _=>World⟩
def bTo:bTYc:=⟨⟩
structure adCi where
instance:CoeSort adCi Type:=⟨fun _=>Value⟩
def ada:adCi:=⟨⟩
structure aiCi where
instance:CoeSort aiCi Type:=⟨fun _=>ByteArray⟩
def aia:aiCi:=⟨⟩
structure auYd where
instance:CoeSort auYd Type:=⟨fun _=>TypeId⟩
def aui:auYd:=⟨⟩
namespace kG
def fi(c:UInt8):Bool:=decide (48≤c.toNat)&&decide (c.toNat≤57)
def bC(l:bk):Nat:=(l.takeWhile fi).length
def val(l:bk):Nat:=l.foldl (fun v c=>v *10+(c.toNat-48)) 0
theorem q7(c:UInt8):fi c=true↔48≤c.toNat∧c.toNat≤57:=by simp[fi]
theorem JO(c:UInt8):fi c=false↔c.toNat<48∨57<c.toNat:=by rw[y8,Ne,q7];omega
theorem ahV:val []=0:=rfl
theorem NJ(l:bk)(c:UInt8):val (l++[c])=val l *10+(c.toNat-48):=by simp[val]
theorem ahW:bC []=0:=rfl
theorem JP(c:UInt8)(l:bk):bC (c::l)=if fi c then bC l+1 else 0:=by unfold bC;rw[RY];split<;>simp
theorem r5(l:bk):bC l≤l.length:=by
 unfold bC;induction l with
 |nil=>simp
 |cons c l dc=>rw[RY];split<;>simp;omega
theorem za(l:bk):(∀k (h:k<l.length),k<bC l→fi l[k]=true)∧(∀h:bC l<l.length,fi l[bC l]=false):=by
 induction l with
 |nil=>simp[bC]
 |cons c l dc=>
  rw[JP];by_cases hc:fi c=true
  ·rw[aT hc];refine⟨fun k h ab=>?_,fun h=>?_⟩
   ·cases k with
    |zero=>simpa using hc
    |succ k=>simpa using dc.1 k (by simpa using h) (by omega)
   ·simpa using dc.2 (by simpa using h)
  ·rw[aK hc];exact⟨fun k h ab=>by omega,fun h=>by simpa using hc⟩
variable{l r:bk}{k:Nat}
theorem NK(ab:k≤bC l)(h:k<l.length)(hd:fi l[k]=true):k<bC l:=by
 rcases Nat.lt_or_eq_of_le ab with aa|aa
 ·exact aa
 ·subst aa;have:=(za l).2 h;rw[this] at hd;cases hd
theorem JQ(ab:k≤bC l)(h:k<l.length)(hd:fi l[k]=false):bC l=k:=by
 rcases Nat.lt_or_eq_of_le ab with aa|aa
 ·have:=(za l).1 k h aa;rw[this] at hd;cases hd
 ·exact aa.symm
theorem ahX(l:bk)(h:∀c∈l,fi c=true):val l<10^l.length:=by
 have key:∀(l:bk) (v n:Nat),v<10^n→(∀c∈l,fi c=true)→l.foldl (fun v c=>v *10+(c.toNat-48)) v<10 ^(n+l.length):=by
  intro l
  induction l with
  |nil=>intro v n aS _;simpa using aS
  |cons c l dc=>
   intro v n aS aj;have hc:=(q7 c).1 (aj c (by simp));have:=dc (v *10+(c.toNat-48)) (n+1) (by rw[AE];omega) (fun d hd=>aj d (by simp[hd]));simp only[mR,fK];rw[show n+(l.length+1)=n+1+l.length by omega];exact this
 have:=key l 0 0 (by simp) h;simpa[val] using this
theorem ahY(l:bk)(k:Nat)(ab:k≤bC l):∀c∈l.take k,fi c=true:=by
 intro c hc;obtain⟨i,hi,rfl⟩:=List.mem_iff_getElem.1 hc;have JR:i<k∧i<l.length:=by have:=hi;simp at this;omega
 simpa using (za l).1 i JR.2 (by omega)
theorem Ei(l:bk)(k:Nat)(ab:k≤bC l):val (l.take k)<10^k:=by
 have h:=ahX _ (ahY l k ab);have aj:=r5 l;have:(l.take k).length=k:=by simp;omega
 rwa [this] at h
def strip:bk→Bool×List UInt8
 |[]=>(false,[])
 |c::r=>if c.toNat=43 then (false,r) else if c.toNat=45 then (true,r) else (false,c::r)
def xw(l:bk):Option Nat:=
 match l.drop (bC l) with
 |[]=>if bC l≤6∧bC l≠0 then some (val l *1000000) else none
 |c::t=>if c.toNat=46∧bC l≤6∧bC t≤6∧bC t=t.length∧bC l+bC t≠0 then some (val (l.take (bC l)) *1000000+val t *10 ^(6-bC t)) else none
def dec(l:bk):Option Int:=(xw (strip l).2).map fun n=>if (strip l).1 then -(n:Int) else n
theorem Ye(ab:k=min 6 (bC l))(h:l.drop k=[]):bC l=k∧k=l.length:=by have aa:=r5 l;have ah:l.length≤k:=List.drop_eq_nil_iff.1 h;omega
theorem ahZ(ab:k=min 6 (bC l))(h:l.drop k=[]):xw l=if k=0 then none else some (val (l.take k) *1000000):=by
 obtain⟨aa,ah⟩:=Ye ab h;unfold xw;rw[aa,h];have ax:l.take k=l:=by rw[ah];exact uo
 rw[ax];by_cases aQ:k=0
 ·simp[aQ]
 ·have:k≤6:=(by omega);simp[aQ,this]
variable{c:UInt8}
theorem ah0(ab:k=min 6 (bC l))(h:l.drop k=c::r)(hc:fi c=false):bC l=k:=by
 have aj:k<l.length:=by apply xv;intro hn;rw[List.drop_eq_nil_iff.2 (by omega)] at h;cases h
 have q8:l[k]=c:=by have:=l3 aj;rw[h] at this;injection this with a b;exact a.symm
 exact JQ (by omega) aj (by rw[q8];exact hc)
theorem ah1(ab:k=min 6 (bC l))(h:l.drop k=c::r)(hc:¬c.toNat=46):xw l=none:=by
 unfold xw;by_cases c0:bC l≤6
 ·have:bC l=k:=(by omega);rw[this,h];simp[hc]
 ·split
  ·simp[c0]
  ·simp[c0]
theorem ah2{m:Nat}(ab:k=min 6 (bC l))(h:l.drop k=c::r)(hc:c.toNat=46)(hm:m=min 6 (bC r)):
  xw l=if r.drop m=[]∧¬k+m=0 then some (val (l.take k) *1000000+val (r.take m) *10 ^(6-m)) else none:=by
 have hn:=ah0 ab h ((JO c).2 (by omega));unfold xw;rw[hn,h];simp only;by_cases aa:r.drop m=[]
 ·obtain⟨aN,aR⟩:=Ye hm aa;have cA:r.take m=r:=(by rw[aR];exact uo);rw[cA,aN];by_cases ah:k+m=0
  ·simp[ah]
  ·rw[aT ⟨hc,by omega,by omega,aR,ah⟩,aT ⟨aa,ah⟩]
 ·rw[aK (by rintro⟨_,_,ax,bg,_⟩;apply aa;apply List.drop_eq_nil_iff.2;omega),aK (by rintro⟨ax,_⟩;exact aa ax)]
def tj(n:Int):Bool:=decide (-1000000000000<n)&&decide (n<1000000000000)
theorem ah3(n:Int):tj n=true↔-1000000000000<n∧n<1000000000000:=by simp[tj]
end kG
namespace kG
open Go.Lib (dg nDigits decDigits trimRightB)
def pad(n k:Nat):List UInt8:=(List.range k).map fun t=>dg n (k-1-t)
theorem ah4(n:Nat):pad n 0=[]:=rfl
theorem Yf(n k:Nat):pad n (k+1)=dg n k::pad n k:=by
 unfold pad;rw[List.range_succ_eq_map,r4,List.map_map]
 congr 1
 apply List.map_congr_left;intro t bH;simp only[Function.comp,Nat.succ_eq_add_one]
 congr 1;omega
theorem R5(n k:Nat):(pad n k).length=k:=by simp[pad]
theorem R6(n:Nat):decDigits n=pad n (nDigits n):=Lib.decDigits_eq n
theorem Yg(n j:Nat):dg n j=UInt8.ofNat (48+n/10^j%10):=rfl
theorem Yh(n j:Nat):(dg n j).toNat=48+n/10^j%10:=by rw[Yg,UInt8.toNat_ofNat'];omega
theorem ah5(n j:Nat):fi (dg n j)=true:=by rw[q7,Yh];omega
def uq(n:Nat):Nat:=if n=0 then 0 else nDigits n
theorem ah6(n:Nat):n<10^uq n:=by
 unfold uq;split
 ·subst_vars;simp
 ·exact RZ n
theorem R7:∀(k n:Nat),n<10^k→1≤k→nDigits n≤k
 |0,_,_,h=>by omega
 |k+1,n,h,_=>by
  by_cases xx:n<10
  ·rw[Lib.nDigits_small xx];omega
  ·rw[Lib.nDigits_big xx];have ab:1≤k:=(by apply xv;intro hn;obtain rfl:k=0:=(by omega);simp at h;omega);have:=R7 k (n/10) (by rw[AE] at h;omega) ab;omega
theorem ah7{n k:Nat}(h:0<n/10^k):k<uq n:=by apply xv;intro hn;have aa:=ah6 n;have ah:10^uq n≤10^k:=vU (by decide) (by omega);rw[Nat.div_eq_of_lt (by omega)] at h;cases h
theorem ah8{n k:Nat}(h:n/10^k=0):uq n≤k:=by
 unfold uq;split
 ·omega
 ·rename_i aQ
  have b0:n<10^k:=by
   rcases Nat.div_eq_zero_iff.1 h with h|h
   ·have:=JK (n:=k) (show 0<10 by decide);omega
   ·exact h
  apply R7 k n b0;apply xv;intro hn;obtain rfl:k=0:=(by omega);simp at b0;omega
def GW(n least:Nat):List UInt8:=pad n (max least (uq n))
theorem R8(n:Nat):GW n 1=decDigits n:=by
 rw[R6];unfold GW uq;split
 ·subst_vars;rw[Lib.nDigits_small (by omega)];rfl
 ·have:=R0 n;rw[show max 1 (nDigits n)=nDigits n by omega]
theorem ah9(l:bk)(c:UInt8):(trimRightB l c).length≤l.length:=by unfold trimRightB;rw[y9];have:=(List.dropWhile_suffix (l:=l.reverse) (· ==c)).length_le;simpa using this
theorem aia(l:bk):∀v,l.foldl (fun v c=>v *10+(c.toNat-48)) v=v *10^l.length+val l:=by
 induction l with
 |nil=>intro v;simp[val]
 |cons c l dc=>
  intro v;unfold val;simp only[mR,fK];rw[dc,dc (0 *10+(c.toNat-48)),AE,Nat.add_mul,Eg,lk,R2,R3 10,y']
theorem aib(c:UInt8)(l:bk):val (c::l)=(c.toNat-48) *10^l.length+val l:=by have:=aia l (0 *10+(c.toNat-48));rw[Eg,lk] at this;unfold val;rw[mR,Eg,lk,this];rfl
theorem Yi(n:Nat):∀k,val (pad n k)=n%10^k
 |0=>by simp[ah4,ahV,Nat.mod_one]
 |k+1=>by rw[Yf,aib,Yi n k,Yh,R5,AE,Nat.mod_mul];rw[show 48+n/10^k%10-48=n/10^k%10 by omega,R3,Eh]
theorem aic(n k:Nat):∀c∈pad n k,fi c=true:=by intro c hc;obtain⟨t,_,rfl⟩:=List.mem_map.1 hc;exact ah5 _ _
theorem Yj(D:bk)(h:∀c∈D,fi c=true)(r:bk):bC (D++r)=D.length+bC r:=by
 induction D with
 |nil=>simp
 |cons c D dc=>
  rw[JL,JP,aT (h c (by simp)),dc (fun d hd=>h d (by simp[hd])),fK];omega
theorem aid(t:bk):bC (46::t)=0:=by rw[JP];rfl
end kG
namespace xy
open kG
structure dU where
 r:List UInt8
 ops:List (Int×Int)
 e:Nat
def hd(r:bk):UInt8:=r.headD 0
def put(st:dU)(k n:Int):dU:=if st.e=0 then⟨st.r,st.ops++[(k,n)],0⟩ else st
def r6(D:bk):Nat:=D.foldl (fun n c=>min (10 *n+(c.toNat-48)) 100) 0
def ll(st:dU):dU:=
 if r6 ((st.r.drop 1).take (bC (st.r.drop 1)))<1∨99<r6 ((st.r.drop 1).take (bC (st.r.drop 1)))∨hd (st.r.drop 1)=48 then⟨st.r,st.ops,3⟩
 else⟨(st.r.drop 1).drop (bC (st.r.drop 1)),st.ops++[(2,(r6 ((st.r.drop 1).take (bC (st.r.drop 1))):Int))],0⟩
def n8(r:bk):Nat:=if hd (r.drop (bC r))=46 then bC r+1+bC (r.drop (bC r+1)) else bC r
def jP(st:dU):dU:=
 match dec (st.r.take (n8 st.r)) with
 |none=>⟨st.r,st.ops,3⟩
 |some n=>⟨st.r.drop (n8 st.r),st.ops++[(1,n)],0⟩
def xz(c:UInt8):Bool:=c==43 || c==45 || c==40
def q9(st:dU):dU:=if hd st.r=36 then ll st else if (hd st.r==46 || fi (hd st.r))=true then jP st else⟨st.r,st.ops,3⟩
def ln(c:UInt8):Option Nat:=if c=120∨c=88 then some 5 else if c=47 then some 6 else none
def Ej(c:UInt8):Option Nat:=if c=43 then some 3 else if c=45 then some 4 else none
def tk(op:UInt8→Option Nat)(f:dU→dU):Nat→dU→dU
 |0,st=>st
 |k+1,st=>if st.e=0 then (match op (hd st.r) with|none=>st|some q=>tk op f k (put (f ⟨st.r.drop 1,st.ops,0⟩) q 0)) else st
def r7(f:dU→dU)(st:dU):dU:=tk ln f (st.r.length+1) (f st)
def vV(f:dU→dU)(st:dU):dU:=tk Ej (r7 f) (st.r.length+1) (r7 f st)
def ur(st:dU):dU:=if st.e=0 then (if hd st.r=41 then⟨st.r.drop 1,st.ops,0⟩ else⟨st.r,st.ops,3⟩) else st
def r8(f:dU→dU)(c:UInt8)(st:dU):dU:=
 if c=40 then ur (vV f st) else if c=45 then put (f st) 7 0 else f st
def fL:Nat→dU→dU
 |0,st=>if xz (hd st.r)=true then⟨st.r,st.ops,6⟩ else q9 st
 |d+1,st=>if xz (hd st.r)=true then r8 (fL d) (hd st.r) ⟨st.r.drop 1,st.ops,st.e⟩ else q9 st
def vW(st:dU):Nat:=if st.e=0 then (if st.r=[] then 0 else 3) else st.e
def Cj(s:bk):dU:=vV (fL 30) ⟨s,[],0⟩
def zb(s:bk):List (Int×Int)× Nat×Nat:=
 if 300<s.length then ([],0,6) else if vW (Cj s)=0 then ((Cj s).ops,0,0) else ([],s.length -(Cj s).r.length,vW (Cj s))
theorem vX(st:dU)(k n:Int):(put st k n).r=st.r:=by unfold put;split<;>rfl
theorem aie(st:dU):(ll st).r.length≤st.r.length:=by
 unfold ll;split
 ·exact bD _
 ·simp only[gZ];omega
theorem aif(st:dU):(jP st).r.length≤st.r.length:=by
 unfold jP;split
 ·exact bD _
 ·simp
theorem Yk(st:dU):(q9 st).r.length≤st.r.length:=by
 unfold q9;split
 ·exact aie st
 ·split
  ·exact aif st
  ·exact bD _
def Down(f:dU→dU):Prop:=∀st,(f st).r.length≤st.r.length
theorem R9{op:UInt8→Option Nat}{f:dU→dU}(hf:Down f):∀k st,(tk op f k st).r.length≤st.r.length
 |0,st=>bD _
 |k+1,st=>by
  rw[tk];split
  ·split
   ·exact bD _
   ·rename_i q _;have aa:=R9 (op:=op) hf k (put (f ⟨st.r.drop 1,st.ops,0⟩) q 0);rw[vX] at aa;have ah:=hf ⟨st.r.drop 1,st.ops,0⟩;simp only[gZ] at ah;omega
  ·exact bD _
variable{f:dU→dU}
theorem JS(hf:Down f):Down (r7 f):=fun st=>dX (R9 hf _ _) (hf st)
theorem aih(hf:Down f):Down (vV f):=fun st=>dX (R9 (JS hf) _ _) (JS hf st)
theorem aii(st:dU):(ur st).r.length≤st.r.length:=by
 unfold ur;split
 ·split
  ·simp
  ·exact bD _
 ·exact bD _
theorem aij(hf:Down f)(c:UInt8):Down (r8 f c):=fun st=>by
 unfold r8;split
 ·exact dX (aii _) (aih hf st)
 ·split
  ·rw[vX];exact hf st
  ·exact hf st
theorem Ck:∀d,Down (fL d)
 |0,st=>by
  rw[fL];split
  ·exact bD _
  ·exact Yk st
 |d+1,st=>by
  rw[fL];split
  ·have:=aij (Ck d) (hd st.r) ⟨st.r.drop 1,st.ops,st.e⟩;simp only[gZ] at this;omega
  ·exact Yk st
variable{st:dU}
theorem aik{op:UInt8→Option Nat}(k:Nat)(h:st.e=0→op (hd st.r)=none):tk op f k st=st:=by
 cases k with
 |zero=>rfl
 |succ k=>
  rw[tk];split
  ·rename_i he;rw[h he]
  ·rfl
theorem ail{op:UInt8→Option Nat}(k:Nat){q:Nat}(he:st.e=0)(h:op (hd st.r)=some q):tk op f (k+1) st=tk op f k (put (f ⟨st.r.drop 1,st.ops,0⟩) q 0):=by rw[tk,aT he,h]
theorem Yl{op:UInt8→Option Nat}(aQ:op 0=none){r:bk}{q:Nat}(h:op (hd r)=some q):r≠[]:=by rintro rfl;rw[show hd []=0 from rfl,aQ] at h;cases h
inductive T where
 |num (n:Nat)
 |var (n:Nat)
 |neg (t:T)
 |bin (k:Nat) (a b:T)
def NumLit(u:bk):Prop:=u≠[]∧((∀c∈u,fi c=true)∨∃D F,u=D++46::F∧(∀c∈D,fi c=true)∧∀c∈F,fi c=true)
inductive G:Nat→Nat→bk→T→Prop where
 |num {d:Nat} {u:bk} {n:Nat}:NumLit u→dec u=some (n:Int)→G 0 d u (.num n)
 |var {d:Nat} {u:bk} {n:Nat}:(∀c∈u,fi c=true)→r6 u=n→1≤n→n≤99→hd u≠48→G 0 d (36::u) (.var n)
 |plus {d:Nat} {u:bk} {t:T}:G 0 d u t→G 0 (d+1) (43::u) t
 |neg {d:Nat} {u:bk} {t:T}:G 0 d u t→G 0 (d+1) (45::u) (.neg t)
 |par {d:Nat} {u:bk} {t:T}:G 2 d u t→G 0 (d+1) (40::(u++[41])) t
 |avA {d:Nat} {u:bk} {t:T}:G 0 d u t→G 1 d u t
 |pop {d:Nat} {u v:bk} {c:UInt8} {k:Nat} {a b:T}:G 1 d u a→G 0 d v b→ln c=some k→G 1 d (u++c::v) (.bin k a b)
 |avB {d:Nat} {u:bk} {t:T}:G 1 d u t→G 2 d u t
 |avC {d:Nat} {u v:bk} {c:UInt8} {k:Nat} {a b:T}:G 2 d u a→G 1 d v b→Ej c=some k→G 2 d (u++c::v) (.bin k a b)
end xy
namespace xy
open kG
open Go.Lib (decDigits nDigits)
variable{r:bk}
theorem aim(h:hd r=46∨fi (hd r)=true):0<n8 r:=by
 unfold n8;cases r with
 |nil=>rcases h with h|h<;>(revert h;decide)
 |cons c r=>
  by_cases gQ:fi c=true
  ·have:0<bC (c::r):=(by rw[JP,aT gQ];omega);split<;>omega
  ·have lp:c=46:=by
    rcases h with h|h
    ·exact h
    ·exact absurd h gQ
   subst lp;have:bC (46::r)=0:=aid r;rw[this];rw[aT (show hd (List.drop 0 (46::r))=46 from rfl)];omega
theorem Sa{c:UInt8}(h:xz c=true):c=43∨c=45∨c=40:=by
 unfold xz at h;simp at h;rcases h with (h|h)|h
 ·exact .inl h
 ·exact .inr (.inl h)
 ·exact .inr (.inr h)
def Cl(f:dU→dU):Prop:=∀st,(f st).ops.length+(f st).r.length≤st.ops.length+st.r.length
theorem Sb(st:dU)(k n:Int):(put st k n).ops.length≤st.ops.length+1:=by
 unfold put;split
 ·simp
 ·omega
theorem Ym(st:dU):(q9 st).ops.length+(q9 st).r.length≤st.ops.length+st.r.length:=by
 unfold q9;split
 ·rename_i pY;have hne:st.r≠[]:=(by intro e;rw[e] at pY;exact absurd pY (by decide));have hp:=List.length_pos_iff.2 hne;unfold ll;split
  ·exact bD _
  ·simp only[gh,fK,th,gZ];omega
 ·split
  ·rename_i hn;have Sc:hd st.r=46∨fi (hd st.r)=true:=(by simpa using hn);have hp:=aim Sc;have hne:st.r≠[]:=by intro e;rw[e] at Sc;rcases Sc with h|h<;>exact absurd h (by decide)
   have aj:=List.length_pos_iff.2 hne;unfold jP;split
   ·exact bD _
   ·simp only[gh,fK,th,gZ];omega
  ·exact bD _
theorem Sd{op:UInt8→Option Nat}(aQ:op 0=none){f:dU→dU}(hf:Cl f):∀k st,(tk op f k st).ops.length+(tk op f k st).r.length≤st.ops.length+st.r.length
 |0,st=>bD _
 |k+1,st=>by
  rw[tk];split
  ·split
   ·exact bD _
   ·rename_i q aC;have hp:=List.length_pos_iff.2 (Yl aQ aC);have aa:=Sd aQ hf k (put (f ⟨st.r.drop 1,st.ops,0⟩) q 0);have ah:=Sb (f ⟨st.r.drop 1,st.ops,0⟩) q 0;have ax:=hf ⟨st.r.drop 1,st.ops,0⟩;rw[vX] at aa;simp only[gZ] at ax;omega
  ·exact bD _
variable{f:dU→dU}
theorem Ek(hf:Cl f):Cl (r7 f):=fun st=>dX (Sd rfl hf _ _) (hf st)
theorem ain(hf:Cl f):Cl (vV f):=fun st=>dX (Sd rfl (Ek hf) _ _) (Ek hf st)
theorem aio(st:dU):(ur st).ops.length+(ur st).r.length≤st.ops.length+st.r.length:=by
 unfold ur;split
 ·split
  ·simp only[gZ];omega
  ·exact bD _
 ·exact bD _
theorem aip(hf:Cl f)(c:UInt8)(st:dU):(r8 f c st).ops.length+(r8 f c st).r.length≤st.ops.length+st.r.length+1:=by
 unfold r8;split
 ·exact dX (dX (aio _) (ain hf st)) (l4 _)
 ·split
  ·rw[vX];have aa:=Sb (f st) 7 0;have ah:=hf st;omega
  ·exact dX (hf st) (l4 _)
theorem Yn(h:xz (hd r)=true):r≠[]:=by intro e;rw[e] at h;exact absurd h (by decide)
theorem tl:∀d,Cl (fL d)
 |0,st=>by
  rw[fL];split
  ·exact bD _
  ·exact Ym st
 |d+1,st=>by
  rw[fL];split
  ·rename_i hs;have aa:=aip (tl d) (hd st.r) ⟨st.r.drop 1,st.ops,st.e⟩;have ah:=List.length_pos_iff.2 (Yn hs);simp only[gZ] at aa;omega
  ·exact Ym st
end xy
namespace el
abbrev bp:=Int×Int
structure dL where
 k:Int
 a:bp
 b:bp
 c:bp
 r:Int
 l:List (List bp)
deriving DecidableEq
def hb:dL:=⟨0,(0,0),(0,0),(0,0),0,[]⟩
inductive bh where
 |nil
 |cons (add:Bool) (b:dL) (sub:bh) (rest:bh)
deriving DecidableEq
structure ey where
 b:dL
 p:bh
deriving DecidableEq
def Yo:ey:=⟨hb,.nil⟩
namespace bh
def len:bh→Nat
 |nil=>0
 |cons _ _ _ r=>r.len+1
def count:bh→Nat
 |nil=>0
 |cons _ _ s r=>s.count+r.count+1
def append:bh→bh→bh
 |nil,q=>q
 |cons a b s r,q=>cons a b s (r.append q)
def map(f:dL→dL):bh→bh
 |nil=>nil
 |cons a b s r=>cons a (f b) (s.map f) (r.map f)
def one(a:Bool)(s:ey):bh:=cons a s.b s.p nil
end bh
def gI(p:bp):Bool:=decide (-536870912≤p.1)&&(decide (p.1≤536870912)&&(decide (-536870912≤p.2)&&decide (p.2≤536870912)))
def tm(r:Int):Bool:=decide (1≤r)&&decide (r≤536870912)
def z2:bp:=(0,0)
def pZ(b:dL)(n:Nat):Bool:=
 if (b.k≠2∧0<b.l.length)∨(b.k≠6∧0<n) then false
 else if b.k=1 then decide (b.b=z2)&&decide (b.c=z2)
 else if b.k=3∨b.k=4 then decide (b.c=z2)
 else if b.k=2∨b.k=6 then decide (b.a=z2)&&(decide (b.b=z2)&&(decide (b.c=z2)&&decide (b.r=0)))
 else true
def p0(l:List (List bp)):Bool:=decide ((l.map List.length).sum≤1000)&&l.all fun c=>c.all gI
def kn(p q:bp):Int:=(p.1-q.1) *(p.1-q.1)+(p.2-q.2) *(p.2-q.2)
def xA(c a e:bp):Bool:=decide (kn a c≠0)&&decide (kn a c=kn e c)
def ia(b:dL):Bool:=
 if b.k=1 then gI b.a&&tm b.r
 else if b.k=2 then p0 b.l
 else if b.k=3 then gI b.a&&(gI b.b&&tm b.r)
 else if b.k=4 then gI b.a&&(gI b.b&&(tm b.r&&decide (b.a≠b.b)))
 else if b.k=5 then gI b.a&&(gI b.b&&(gI b.c&&(tm b.r&&xA b.c b.a b.b)))
 else false
def jm:bh→Nat→Int→Option Int
 |.nil,_,left=>some left
 |.cons _ b s r,f,left=>
  if left<1∨pZ b s.len=false then none
  else if b.k=6 then (if 8≤f then none else match jm s (f+1) (left-1) with
   |none=>none
   |some m=>jm r f m)
  else if ia b=true then jm r f (left-1) else none
def okV(s:ey):Bool:=(jm (.one true s) 0 1000).isSome
structure hE where
 bz:Bool
 bK:Bool
 q:Int
 fF:bp
deriving DecidableEq
def tn:hE:=⟨false,false,0,(0,0)⟩
def flip(c:Bool)(v:Int):Int:=if c then -v else v
def NL(q:Int)(p:bp):bp:=if q%4=1 then (-p.2,p.1) else if q%4=2 then (-p.1,-p.2) else if q%4=3 then (p.2,-p.1) else p
def iU(t:hE)(p:bp):bp:=((NL t.q (flip t.bz p.1,flip t.bK p.2)).1+t.fF.1,(NL t.q (flip t.bz p.1,flip t.bK p.2)).2+t.fF.2)
def xB(t:hE)(b:dL):dL:=
 if b.k=1 then {hb with k:=1,r:=b.r,a:=iU t b.a}
 else if b.k=3∨b.k=4 then {hb with k:=b.k,r:=b.r,a:=iU t b.a,b:=iU t b.b}
 else if b.k=5 then {hb with k:=5,r:=b.r,a:=(if t.bz≠t.bK then iU t b.b else iU t b.a),b:=(if t.bz≠t.bK then iU t b.a else iU t b.b),c:=iU t b.c}
 else if b.k=2 then {hb with k:=2,r:=b.r,l:=b.l.map fun c=>c.map (iU t)}
 else {hb with k:=b.k,r:=b.r}
def pc(t:hE):bh→bh
 |.nil=>.nil
 |.cons a b s r=>.cons a (xB t b) (if b.k=6 then pc t s else .nil) (pc t r)
def n9(t:hE)(s:ey):ey:=⟨xB t s.b,if s.b.k=6 then pc t s.p else .nil⟩
def Cm(t:hE)(s:ey):Option ey:=if okV s=true∧okV (n9 t s)=true then some (n9 t s) else none
theorem bh.uu(p q:bh):(p.append q).len=p.len+q.len:=by
 induction p with
 |nil=>simp[append,len]
 |cons a b s r _ dc=>simp[append,len,dc];omega
theorem bh.append_nil(p:bh):p.append .nil=p:=by
 induction p with
 |nil=>rfl
 |cons a b s r _ dc=>simp[append,dc]
theorem bh.append_assoc(p q r:bh):(p.append q).append r=p.append (q.append r):=by
 induction p with
 |nil=>rfl
 |cons a b s t _ dc=>simp[append,dc]
theorem bh.count_append(p q:bh):(p.append q).count=p.count+q.count:=by
 induction p with
 |nil=>simp[append,count]
 |cons a b s r _ dc=>simp[append,count,dc];omega
theorem NM(t:hE)(p:bh):(pc t p).len=p.len:=by
 induction p with
 |nil=>rfl
 |cons a b s r _ dc=>simp[pc,bh.len,dc]
theorem aiq{p:bh}:∀{f:Nat} {n m:Int},jm p f n=some m→m≤n∧n-m=p.count:=by
 induction p with
 |nil=>intro f n m h;simp only[jm,mv] at h;subst h;simp[bh.count]
 |cons a b s r Se JT=>
  intro f n m h;unfold jm at h;split at h
  ·cases h
  ·rename_i aQ
   have af:pZ b s.len=true:=by
    cases hx:pZ b s.len
    ·exact absurd (.inr hx) aQ
    ·rfl
   split at h
   ·split at h
    ·cases h
    ·split at h
     ·cases h
     ·rename_i k ab;have aa:=Se ab;have ah:=JT h;simp only[bh.count];omega
   ·rename_i c0;split at h
    ·have ah:=JT h
     have hs:s.len=0:=by
      rcases GV s.len with e|e
      ·exact e
      ·unfold pZ at af;rw[aT (.inr ⟨c0,e⟩)] at af;cases af
     have hc:s.count=0:=by
      cases s with
      |nil=>rfl
      |cons _ _ _ _=>simp[bh.len] at hs
     simp only[bh.count,hc];omega
    ·cases h
end el
namespace dE
open Go.RowKit el
abbrev eE:TypeId:=71
abbrev fo:TypeId:=78
abbrev fb:TypeId:=80
abbrev dh:TypeId:=75
abbrev eX:Value:=ay 0
structure aL(S:Jp)(w w':bTo):Prop where
 os:w'.os=w.os
 tape:w'.tape=w.tape
 output:w'.output=w.output
 size:w.heap.size≤w'.heap.size
 block:∀k,S k→k<w.heap.size→w'.heap[k]?=w.heap[k]?
theorem aL.refl(S:Jp)(w:bTo):aL S w w:=⟨rfl,rfl,rfl,bD _,fun _ _ _=>rfl⟩
theorem aL.trans{S:Jp}{a b c:bTo}(h:aL S a b)(g:aL S b c):aL S a c:=⟨g.os.trans h.os,g.tape.trans h.tape,g.output.trans h.output,dX h.size g.size,fun k ab aj=>(g.block k ab (jl aj h.size)).trans (h.block k ab aj)⟩
variable{S:Jp}{w w':bTo}
theorem aL.dM(h:av w w w'):aL S w w':=⟨h.os,h.tape,h.output,h.size,fun k _ aj=>h.block k aj⟩
theorem aL.mono{R:Jp}(h:aL S w w')(hR:∀k,k<w.heap.size→R k→S k):aL R w w':=⟨h.os,h.tape,h.output,h.size,fun k ab aj=>h.block k (hR k aj ab) aj⟩
theorem aL.below(B:Nat)(h:aL S w w')(bJ:B≤w.heap.size)(hS:∀k,k<B→S k):Below B w w':=⟨h.os,h.tape,h.output,h.size,fun k ab=>h.block k (hS k ab) (jl ab bJ)⟩
theorem aL.get(h:aL S w w'){k:Nat}{o:Obj}(ab:S k)(bl:w.heap[k]?=some o):w'.heap[k]?=some o:=(h.block k ab (Array.getElem?_eq_some_iff.1 bl).1).trans bl
theorem aL.grown{row:Option Nat}(h:w.grownBy w' row)(hr:∀k,row=some k→¬S k):aL S w w':=⟨h.os,h.tape,h.output,h.size,fun k ab aj=>h.block k aj fun e=>hr k e.symm ab⟩
theorem aL.set{a:Addr}(h:¬S a.block)(u:ada):aL S w (w.setCell a u):=⟨rfl,rfl,rfl,by simp[World.setCell],fun k ab _=>jZ _ _ _ _ fun e=>h (e ▸ ab)⟩
theorem aL.alloc(S:Jp)(w:bTo)(o:Obj):aL S w (w.alloc o):=.dM ((Below.refl _ _).alloc (bD _) _)
abbrev nA:Nat:=1000000000
def hX(S:Jp)(w:bTo)(p:aya)(l:List bp):Prop:=l.length≤nA∧(0<l.length→∃(b o:Nat) (cs:agv),p=some ⟨b,o,none⟩∧S b∧bo w b cs eE∧∀i (hi:i<l.length),cs[o+i *2]?=some (I l[i].1)∧cs[o+i *2+1]?=some (I l[i].2))
def iF(S:Jp)(w:bTo)(p:aya)(l:List (List bp)):Prop:=l.length≤nA∧(0<l.length→∃(b o:Nat) (cs:agv),p=some ⟨b,o,none⟩∧S b∧bo w b cs fo∧∀i (hi:i<l.length),∃q c,cs[o+i]?=some (.slice q l[i].length c)∧l[i].length≤c∧hX S w q l[i])
abbrev l5(b:dL)(jA cD:ada):List Value:=[I b.k,I b.a.1,I b.a.2,I b.b.1,I b.b.2,I b.c.1,I b.c.2,I b.r,jA,cD]
abbrev GX(b:dL)(jA cD:ada):Array Value:= #[I b.k,I b.a.1,I b.a.2,I b.b.1,I b.b.2,I b.c.1,I b.c.2,I b.r,jA,cD]
abbrev j0(b:dL)(jA cD:ada):Value:=.agg (GX b jA cD)
def dS(S:Jp)(w:bTo):bh→bTv→Prop
 |.nil,_=>True
 |.cons a b s r,xs=>(∃(pl:aya) (cl:Nat) (pp:aya) (cp:Nat),xs.take 11=ai a::l5 b (ad pl b.l.length cl) (ad pp s.len cp)∧b.l.length≤cl∧s.len≤cp∧iF S w pl b.l∧s.len≤nA∧
  (0<s.len→∃(k o:Nat) (cs:agv),pp=some ⟨k,o,none⟩∧S k∧bo w k cs fb∧dS S w s (cs.toList.drop o)))∧dS S w r (xs.drop 11)
def iG(S:Jp)(w:bTo)(p:aya)(s:bh):Prop:=s.len≤nA∧(0<s.len→∃(k o:Nat) (cs:agv),p=some ⟨k,o,none⟩∧S k∧bo w k cs fb∧dS S w s (cs.toList.drop o))
structure dY(S:Jp)(w:bTo)(pl:aya)(cl:Nat)(pp:aya)(cp:Nat)(s:ey):Prop where
 l:iF S w pl s.b.l
 p:iG S w pp s.p
 cl:s.b.l.length≤cl
 cp:s.p.len≤cp
theorem hX.nil(S:Jp)(w:bTo)(p:aya):hX S w p []:=⟨eC _,fun h=>absurd h (nz _)⟩
theorem iF.nil(S:Jp)(w:bTo)(p:aya):iF S w p []:=⟨eC _,fun h=>absurd h (nz _)⟩
theorem iG.nil(S:Jp)(w:bTo)(p:aya):iG S w p .nil:=⟨eC _,fun h=>absurd h (nz _)⟩
theorem dY.bare(S:Jp)(w:bTo)(p q:aya)(b:dL)(cl cp:Nat)(af:b.l=[]):dY S w p cl q cp ⟨b,.nil⟩:=⟨by rw[show (⟨b,.nil⟩:ey).b.l=[] from af];exact .nil _ _ _,.nil _ _ _,by rw[show (⟨b,.nil⟩:ey).b.l=[] from af];exact eC _,eC _⟩
theorem lt_of_heap{k:Nat}{o:Obj}(h:w.heap[k]?=some o):k<w.heap.size:=(Array.getElem?_eq_some_iff.1 h).1
variable{a:Bool}{b:dL}{s r:bh}{xs:bTv}
theorem dS.head(h:dS S w (.cons a b s r) xs):
  ∃(pl:aya) (cl:Nat) (pp:aya) (cp:Nat),xs.take 11=ai a::l5 b (ad pl b.l.length cl) (ad pp s.len cp)∧dY S w pl cl pp cp ⟨b,s⟩:=by
 obtain⟨⟨pl,cl,pp,cp,aa,ah,ax,bg,b7,c0⟩,_⟩:=h;exact⟨pl,cl,pp,cp,aa,bg,⟨b7,c0⟩,ah,ax⟩
theorem dS.tail(h:dS S w (.cons a b s r) xs):dS S w r (xs.drop 11):=h.2
theorem dS.mk{pl:aya}{cl:Nat}{pp:aya}{cp:Nat}(h:xs.take 11=ai a::l5 b (ad pl b.l.length cl) (ad pp s.len cp))(hs:dY S w pl cl pp cp ⟨b,s⟩)(hr:dS S w r (xs.drop 11)):dS S w (.cons a b s r) xs:=
 ⟨⟨pl,cl,pp,cp,h,hs.cl,hs.cp,hs.l,hs.p.1,hs.p.2⟩,hr⟩
section
variable{S R:Jp}{w w':bTo}
variable{p:aya}{l:List bp}
theorem hX.keep(h:hX S w p l)(ab:aL S w w'):hX S w' p l:=by refine⟨h.1,fun aj=>?_⟩;obtain⟨b,o,cs,rfl,bJ,aF,hc⟩:=h.2 aj;exact⟨b,o,cs,rfl,bJ,ab.get bJ aF,hc⟩
theorem hX.mono(h:hX S w p l)(ab:∀k,k<w.heap.size→S k→R k):hX R w p l:=by refine⟨h.1,fun aj=>?_⟩;obtain⟨b,o,cs,rfl,bJ,aF,hc⟩:=h.2 aj;exact⟨b,o,cs,rfl,ab _ (lt_of_heap aF) bJ,aF,hc⟩
theorem iF.keep{p:aya}{l:List (List bp)}(h:iF S w p l)(ab:aL S w w'):iF S w' p l:=by refine⟨h.1,fun aj=>?_⟩;obtain⟨b,o,cs,rfl,bJ,aF,hc⟩:=h.2 aj;refine⟨b,o,cs,rfl,bJ,ab.get bJ aF,fun i hi=>?_⟩;obtain⟨q,c,aC,q8,bl⟩:=hc i hi;exact⟨q,c,aC,q8,bl.keep ab⟩
theorem iF.mono{p:aya}{l:List (List bp)}(h:iF S w p l)(ab:∀k,k<w.heap.size→S k→R k):iF R w p l:=by refine⟨h.1,fun aj=>?_⟩;obtain⟨b,o,cs,rfl,bJ,aF,hc⟩:=h.2 aj;refine⟨b,o,cs,rfl,ab _ (lt_of_heap aF) bJ,aF,fun i hi=>?_⟩;obtain⟨q,c,aC,q8,bl⟩:=hc i hi;exact⟨q,c,aC,q8,bl.mono ab⟩
theorem dS.keep(ab:aL S w w'):∀{s:bh} {xs:bTv},dS S w s xs→dS S w' s xs
 |.nil,_,_=>trivial
 |.cons a b s r,xs,h=>by obtain⟨⟨pl,cl,pp,cp,aa,ah,ax,bg,ea,b7⟩,c0⟩:=h;refine⟨⟨pl,cl,pp,cp,aa,ah,ax,bg.keep ab,ea,fun aj=>?_⟩,dS.keep ab c0⟩;obtain⟨k,o,cs,e,hS,aF,hp⟩:=b7 aj;exact⟨k,o,cs,e,hS,ab.get hS aF,dS.keep ab hp⟩
theorem dS.mono(ab:∀k,k<w.heap.size→S k→R k):∀{s:bh} {xs:bTv},dS S w s xs→dS R w s xs
 |.nil,_,_=>trivial
 |.cons a b s r,xs,h=>by obtain⟨⟨pl,cl,pp,cp,aa,ah,ax,bg,ea,b7⟩,c0⟩:=h;refine⟨⟨pl,cl,pp,cp,aa,ah,ax,bg.mono ab,ea,fun aj=>?_⟩,dS.mono ab c0⟩;obtain⟨k,o,cs,e,hS,aF,hp⟩:=b7 aj;exact⟨k,o,cs,e,ab _ (lt_of_heap aF) hS,aF,dS.mono ab hp⟩
theorem iG.keep{p:aya}{s:bh}(h:iG S w p s)(ab:aL S w w'):iG S w' p s:=by refine⟨h.1,fun aj=>?_⟩;obtain⟨k,o,cs,e,hS,aF,hp⟩:=h.2 aj;exact⟨k,o,cs,e,hS,ab.get hS aF,dS.keep ab hp⟩
theorem iG.mono{p:aya}{s:bh}(h:iG S w p s)(ab:∀k,k<w.heap.size→S k→R k):iG R w p s:=by refine⟨h.1,fun aj=>?_⟩;obtain⟨k,o,cs,e,hS,aF,hp⟩:=h.2 aj;exact⟨k,o,cs,e,ab _ (lt_of_heap aF) hS,aF,dS.mono ab hp⟩
theorem dY.keep{pl pp:aya}{cl cp:Nat}{s:ey}(h:dY S w pl cl pp cp s)(ab:aL S w w'):dY S w' pl cl pp cp s:=⟨h.l.keep ab,h.p.keep ab,h.cl,h.cp⟩
theorem dY.mono{pl pp:aya}{cl cp:Nat}{s:ey}(h:dY S w pl cl pp cp s)(ab:∀k,k<w.heap.size→S k→R k):dY R w pl cl pp cp s:=⟨h.l.mono ab,h.p.mono ab,h.cl,h.cp⟩
theorem dY.below{pl pp:aya}{cl cp:Nat}{s:ey}(h:dY S w pl cl pp cp s)(af:av w w w'):dY S w' pl cl pp cp s:=h.keep (.dM af)
theorem iF.below{l:List (List bp)}(h:iF S w p l)(af:av w w w'):iF S w' p l:=h.keep (.dM af)
theorem hX.below(h:hX S w p l)(af:av w w w'):hX S w' p l:=h.keep (.dM af)
theorem iG.below{s:bh}(h:iG S w p s)(af:av w w w'):iG S w' p s:=h.keep (.dM af)
theorem dS.below{s:bh}{xs:bTv}(h:dS S w s xs)(af:av w w w'):dS S w' s xs:=h.keep (.dM af)
theorem dY.lt{pl pp:aya}{cl cp:Nat}{s:ey}(h:dY S w pl cl pp cp s):dY (fun k=>S k∧k<w.heap.size) w pl cl pp cp s:=h.mono fun _ aa ah=>⟨ah,aa⟩
end
theorem dS.append{S:Jp}{w:bTo}:∀{s:bh} {xs eS:bTv} {t:bh},dS S w s xs→xs.length=s.len *11→dS S w t eS→dS S w (s.append t) (xs++eS)
 |.nil,xs,eS,t,_,aj,h=>by obtain rfl:xs=[]:=qz (by simpa[bh.len] using aj);exact h
 |.cons a b s r,xs,eS,t,h,aj,g=>by obtain⟨⟨pl,cl,pp,cp,aa,ah⟩,c0⟩:=h;have AH:11≤xs.length:=(by rw[aj];simp only[bh.len];omega);refine⟨⟨pl,cl,pp,cp,by rw[X' AH];exact aa,ah⟩,?_⟩;rw[Ya AH];exact dS.append c0 (by simp only[gZ,aj,bh.len];omega) g
theorem Yp{cs:agv}{n:Nat}{v0 v1 v2 v3 v4 v5 v6 du ds v9 v10:ada}(h:(cs.toList.drop n).take 11=[v0,v1,v2,v3,v4,v5,v6,du,ds,v9,v10]):
  cs[n]?=some v0∧cs[n+1]?=some v1∧cs[n+2]?=some v2∧cs[n+3]?=some v3∧cs[n+4]?=some v4∧cs[n+5]?=some v5∧cs[n+6]?=some v6∧cs[n+7]?=some du∧cs[n+8]?=some ds∧cs[n+9]?=some v9∧cs[n+10]?=some v10:=by
 have key:∀j,j<11→cs[n+j]?=[v0,v1,v2,v3,v4,v5,v6,du,ds,v9,v10][j]?:=by intro j cB;rw[←h,ti,aT cB,AF];simp
 exact⟨key 0 (by decide),key 1 (by decide),key 2 (by decide),key 3 (by decide),key 4 (by decide),key 5 (by decide),key 6 (by decide),key 7 (by decide),key 8 (by decide),key 9 (by decide),key 10 (by decide)⟩
end dE
namespace dE
open Go.RowKit el
abbrev fA(p:bp):Value:=.agg #[I p.1,I p.2]
abbrev dB(p:bp):Obj:=.cells #[I p.1,I p.2] eE
theorem ej{a b:Bool}(h:a=b):Ending.returned (ai a)=bb (ai b):=by rw[h]
def NN(k:Int)(a b c:bp)(r:Int)(nl hJ:Nat):Bool:=
 if (k≠2∧0<nl)∨(k≠6∧0<hJ) then false
 else if k=1 then decide (b=z2)&&decide (c=z2)
 else if k=3∨k=4 then decide (c=z2)
 else if k=2∨k=6 then decide (a=z2)&&(decide (b=z2)&&(decide (c=z2)&&decide (r=0)))
 else true
theorem AI(p:bp)(w:bTo):Calls Tryz.prog 245 #[fA p] w fun e w'=>e=bb (ai (gI p))∧w.alloc (dB p)=w':=by
 obtain⟨x,y⟩:=p;go_enter Tryz.func245,Tryz.ntmps245;go_wp2_with fail
 all_goals
  go_ret;refine⟨ej (Bool.eq_iff_iff.2 ⟨fun h=>?_,fun h=>?_⟩),rfl⟩<;>simp only[gI,gy,gH,oE] at h⊢<;>omega
theorem NO(r:Int)(w:bTo):Calls Tryz.prog 246 #[I r] w fun e w'=>e=bb (ai (tm r))∧w=w':=by
 go_enter Tryz.func246,Tryz.ntmps246;go_wp2_with fail
 all_goals
  go_ret;refine⟨ej (Bool.eq_iff_iff.2 ⟨fun h=>?_,fun h=>?_⟩),rfl⟩<;>simp only[tm,gy,gH,oE] at h⊢<;>omega
theorem air(k aA aB aU aZ cx aP r:Int)(pl pp:aya)(nl hJ cl cp:Nat)(w:bTo):
  Calls Tryz.prog 244 #[.agg #[I k,I aA,I aB,I aU,I aZ,I cx,I aP,I r,ad pl nl cl,ad pp hJ cp]] w fun e w'=>e=bb (ai (NN k (aA,aB) (aU,aZ) (cx,aP) r nl hJ))∧av w w w':=by
 go_enter Tryz.func244,Tryz.ntmps244;go_wp2_with fail
 all_goals
  go_ret;refine⟨ej ?_,((Below.refl _ _).alloc (bD _) _).alloc (by simp) _⟩;first|(simp[NN,z2, *];done)|grind [NN,z2]
def zc:List (List bp)→Int→Bool
 |[],_=>true
 |c::l,left=>if left<(c.length:Int) then false else c.all gI&&zc l (left-c.length)
theorem ais(l:List (List bp)):∀n:Int,0≤n→zc l n=(decide (((l.map List.length).sum:Int)≤n)&&l.all fun c=>c.all gI):=by
 induction l with
 |nil=>intro n hn;simp[zc,hn]
 |cons c l dc=>
  intro n hn;unfold zc;by_cases h:n<(c.length:Int)
  ·rw[aT h];have ah:¬((((c::l).map List.length).sum:Nat):Int)≤n:=(by simp only[r4,R4];omega);rw[eD ah,NI]
  ·rw[aK h,dc _ (by omega)];have ah:decide ((((c::l).map List.length).sum:Nat)≤n)=decide ((((l.map List.length).sum:Nat):Int)≤n-c.length):=(by apply decide_eq_decide.2;simp only[r4,R4];omega);rw[ah,AG];cases c.all gI<;>simp
theorem ait(l:List (List bp)):p0 l=zc l 1000:=by
 rw[ais _ _ (by decide)];unfold p0
 congr 1
 apply decide_eq_decide.2;omega
theorem hX.at{S:Jp}{w:bTo}{p:aya}{l:List bp}(h:hX S w p l){i:Nat}(hi:i<l.length){q:bp}(aC:l[i]=q):∃b o,p=some ⟨b,o,none⟩∧aw w b (o+i *2) (I q.1)∧aw w b (o+i *2+1) (I q.2):=by obtain⟨b,o,cs,rfl,_,aF,hc⟩:=h.2 (by omega);obtain⟨aa,ah⟩:=hc i hi;rw[aC] at aa ah;exact⟨b,o,rfl,by simp[World.cell?,aF,aa],by simp[World.cell?,aF,ah]⟩
theorem iF.at{S:Jp}{w:bTo}{p:aya}{l:List (List bp)}(h:iF S w p l){i:Nat}(hi:i<l.length){r:List bp}(hr:l[i]=r):∃b o q c,p=some ⟨b,o,none⟩∧aw w b (o+i) (ad q r.length c)∧r.length≤c∧hX S w q r:=by obtain⟨b,o,cs,rfl,_,aF,hc⟩:=h.2 (by omega);obtain⟨q,c,aa,ah,ax⟩:=hc i hi;rw[hr] at aa ah ax;exact⟨b,o,q,c,rfl,by simp[World.cell?,aF,aa],ah,ax⟩
theorem aiu(S:Jp)(p:aya)(l:List (List bp))(n c:Nat)(hn:n=l.length)(w:bTo)(H:J (iF S w p l))(b:Bool)(af:J (p0 l=b)):
  Calls Tryz.prog 247 #[ad p n c] w fun e w'=>e=bb (ai b)∧av w w w':=by
 have mw:n≤1000000000:=by rw[hn];exact H.out.1
 have a1:=U hn;have lq:J (zc (l.drop 0) 1000=b):=by show _=_;rw[←af.out,ait];rfl
 clear af hn;go_enter Tryz.func247,Tryz.ntmps247;go_wp2_with fail
 go_loopw [3,10] (fun JU i wr=>∃(j:Nat) (left:Int) (aG:bTo),aG=wr∧j≤n∧0≤left∧left≤1000∧J (zc (l.drop j) left=b)∧JU=I left∧i=I j∧J (av w w aG)) (fun _ i _=>n -(intOf i).toNat)
 case atStart=>exact⟨0,1000,_,rfl,eC _,by decide,by decide,lq.out,rfl,rfl,Below.refl _ _⟩
 case round=>
 obtain⟨j,left,aG,rfl,cB,JV,mS,dA,rfl,rfl,aH⟩:=hrel;by_cases b0:j<n
 ·have fs:j<l.length:=(by rw[←a1.out];exact b0);have ib:(j:Int)<(n:Int):=(by omega);obtain⟨r,hr⟩:=az (l[j]);obtain⟨fS,o,q,jB,rfl,nB,_,mx⟩:=(H.out.below aH.out).at fs hr;have bL:=U mx;have r9:r.length≤1000000000:=mx.1;have jn:J ((if left<(r.length:Int) then false else r.all gI&&zc (l.drop (j+1)) (left-r.length))=b):=(by show _=_;rw[←dA.out,l3 fs,hr];rfl);obtain⟨m,hm⟩:=az r.length;have bB:=U hm;rw[hm] at nB jn r9;clear mx hr dA hm;by_cases hle:left<(m:Int)
  ·have aE:J (false=b):=(by show _=_;rw[←jn.out,aT hle]);go_wp2_with fail;go_ret;exact⟨ej aE.out,aH.out⟩
  ·have GY:J ((r.all gI&&zc (l.drop (j+1)) (left-m))=b):=(by show _=_;rw[←jn.out,aK hle]);clear jn;have Yq:(m:Int)≤left:=(by omega);have hw:bT (left -(m:Int))=left -(m:Int):=b4 _ (by omega);go_wp2_with fail;have dC:=U (aH.out)
   go_loopw [24] (fun i fT=>∃(k:Nat) (cO:bTo),cO=fT∧k≤m∧J ((r.drop k).all gI=r.all gI)∧i=I k∧J (av aG aG cO)) (fun i _=>m -(intOf i).toNat)
   case atStart=>exact⟨0,_,rfl,eC _,rfl,rfl,Below.refl _ _⟩
   case round=>
   obtain⟨k,cO,rfl,ab,cT,rfl,aV⟩:=hrel;by_cases ko:k<m
   ·have qA:k<r.length:=(by rw[bB.out];exact ko);have NP:(k:Int)<(m:Int):=(by omega);obtain⟨z,bx⟩:=az (r[k]);obtain⟨nC,l6,rfl,s0,s1⟩:=(bL.out.below aV.out).at qA bx;obtain⟨gR,gS⟩:=z;have kW:J ((r.drop k).all gI=(gI (gR,gS)&&(r.drop (k+1)).all gI)):=(by show _=_;rw[l3 qA,bx];rfl);clear bx;obtain⟨f,hf⟩:=az (gI (gR,gS));have El:=U hf;clear hf;go_wp2_with fail;refine (AI (gR,gS) _).mono ?_;rintro e bE ⟨rfl,rfl⟩;have fc:J (av aG aG ((cO.alloc (dB (gR,gS))).alloc (dB (gR,gS)))):=(aV.out.alloc aV.out.size _).alloc (by have:=aV.out.size;simp;omega) _;rw[El.out];generalize (cO.alloc (dB (gR,gS))).alloc (dB (gR,gS))=cr at fc⊢;cases f with
    |true=>
     have hg:J ((r.drop (k+1)).all gI=r.all gI):=(by show _=_;rw[←cT.out,kW.out,El.out,JM]);go_wp2_with fail;go_round<;>first|exact⟨k+1,_,rfl,by omega,hg.out,by go_num,fc.out⟩|(simp[intOf]<;>omega)
    |false=>
     have aE:J (false=b):=(by show _=_;rw[←GY.out,←cT.out,kW.out,El.out,NI,NI]);go_wp2_with fail;go_ret;exact⟨ej aE.out,aH.out.trans (fc.out.mono aH.out.size)⟩
   ·have zd:k=m:=(by omega);have a7:J (zc (l.drop (j+1)) (left-m)=b):=(by show _=_;have aa:=cT.out;rw[n7 (by have:=bB.out;omega)] at aa;rw[←GY.out,←aa];rfl);subst zd;go_wp2_with fail;go_round<;>first|exact⟨j+1,left-k,_,rfl,by omega,by omega,by omega,a7.out,by go_num,by go_num,aH.out.trans (aV.out.mono aH.out.size)⟩|(simp[intOf]<;>omega)
 ·have iH:j=n:=(by omega);have dF:J (true=b):=(by show _=_;rw[←dA.out,n7 (by rw[←a1.out];omega)];rfl);subst iH;go_wp2_with fail;go_ret;exact⟨ej dF.out,aH.out⟩
end dE
namespace el
structure bR where
 ao:Int
 ak:Int
 ar:Int
 aq:Int
deriving DecidableEq
def ed:bR:=⟨0,0,0,0⟩
def tp(v:Int):Bool:=decide (-536870912≤v)&&decide (v≤536870912)
def okB(b:bR):Bool:=decide (b.ao≤b.ar)&&(decide (b.ak≤b.aq)&&(tp b.ao&&(tp b.ak&&(tp b.ar&&tp b.aq))))
def kX(b:bR):List bp:=[(b.ao,b.ak),(b.ar,b.ak),(b.ao,b.aq),(b.ar,b.aq)]
def splitB(b:bR):List bR:=
 let x:=b.ao+(b.ar-b.ao)/ 2;let y:=b.ak+(b.aq-b.ak)/ 2
 [⟨b.ao,b.ak,x,y⟩,⟨x,b.ak,b.ar,y⟩,⟨b.ao,y,x,b.aq⟩,⟨x,y,b.ar,b.aq⟩]
def mT(v lo hi:Int):Int:=if v<lo then lo-v else if hi<v then v-hi else 0
def vY(v lo hi:Int):Int:=max (max (max (v-lo) (lo-v)) (v-hi)) (hi-v)
def ze(b:bR)(p:bp):Int:=mT p.1 b.ao b.ar *mT p.1 b.ao b.ar+mT p.2 b.ak b.aq *mT p.2 b.ak b.aq
def Em(b:bR)(p:bp):Int:=vY p.1 b.ao b.ar *vY p.1 b.ao b.ar+vY p.2 b.ak b.aq *vY p.2 b.ak b.aq
def dN(o a b:bp):Int:=(a.1-o.1) *(b.2-o.2) -(a.2-o.2) *(b.1-o.1)
def Cn(o a b:bp):Int:=(b.1-o.1) *(a.1-o.1)+(b.2-o.2) *(a.2-o.2)
def p1(b:bR)(p q:bp):Bool:=
 if max p.1 q.1<b.ao∨b.ar<min p.1 q.1∨max p.2 q.2<b.ak∨b.aq<min p.2 q.2 then false
 else !((kX b).all fun c=>decide (0<dN p q c))&&!((kX b).all fun c=>decide (dN p q c<0))
def r'(b:bR):Bool:=decide (b.ar<b.ao)|| decide (b.aq<b.ak)
def uv(a b:bR):Bool:=r' a ||(r' b ||(decide (a.ar<b.ao)||(decide (b.ar<a.ao)||(decide (a.aq<b.ak)|| decide (b.aq<a.ak)))))
def uw(b:bR)(c:bp)(r:Int):Int:=if r *r<ze b c then 0 else if Em b c≤r *r then 2 else 1
def zf(p a c:bp)(r:Int):Bool:=
 if Cn a c p≤0 then decide (kn p a≤r *r)
 else if kn c a≤Cn a c p then decide (kn p c≤r *r)
 else decide (dN a c p *dN a c p≤r *r *kn c a)
def NQ(b:bR)(a c:bp)(r:Int):Int:=
 if ((kX b).all fun p=>zf p a c r)=true then 2
 else if ((kX b).any fun p=>zf p a c r)=true∨ze b a≤r *r∨ze b c≤r *r∨p1 b a c=true then 1 else 0
def xC(p a c:bp)(h:Int):Int:=if dN a c p *dN a c p≤h *h *kn c a then 0 else if 0<dN a c p then 1 else -1
def xD(p a c:bp):Int:=if Cn a c p<0 then -1 else if kn c a<Cn a c p then 1 else 0
def aiv(p a c:bp)(h:Int):Bool:=decide (xC p a c h=0)&&decide (xD p a c=0)
def NR(b:bR)(a c:bp)(h:Int):Int:=
 if ((kX b).all fun p=>aiv p a c h)=true then 2
 else if ((kX b).all fun p=>decide (xC p a c h= -1))=true∨((kX b).all fun p=>decide (xC p a c h=1))=true∨((kX b).all fun p=>decide (xD p a c= -1))=true∨((kX b).all fun p=>decide (xD p a c=1))=true then 0
 else 1
def JW(c a e:bp):Bool:=decide (dN c a e<0)
def JX(d q r:Int):Bool:=decide (q-r *r-d≤0)|| decide ((q-r *r-d) *(q-r *r-d)≤4 *d *(r *r))
def JY(d q r:Int):Bool:=decide (d-q-r *r≤0)|| decide ((d-q-r *r) *(d-q-r *r)≤4 *q *(r *r))
def GZ(b:bR)(c a e:bp):Bool:=
 if a=e then true
 else if JW c a e=true then ((kX b).all fun p=>decide (0≤dN c a p))||((kX b).all fun p=>decide (0≤dN c p e))
 else ((kX b).all fun p=>decide (0≤dN c a p))&&((kX b).all fun p=>decide (0≤dN c p e))
def G0(b:bR)(c a e:bp):Bool:=
 if a=e then false
 else if JW c a e=true then ((kX b).all fun p=>decide (dN c a p<0))&&((kX b).all fun p=>decide (dN c p e<0))
 else ((kX b).all fun p=>decide (dN c a p<0))||((kX b).all fun p=>decide (dN c p e<0))
def Sf(b:bR)(c a e:bp)(r:Int):Int:=
 if uw b a r=2∨uw b e r=2 then 2
 else if GZ b c a e=true∧JX (ze b c) (kn a c) r=true∧JY (Em b c) (kn a c) r=true then 2
 else if uw b a r≠0∨uw b e r≠0 then 1
 else if G0 b c a e=true∨JY (ze b c) (kn a c) r=false∨JX (Em b c) (kn a c) r=false then 0
 else 1
def jQ(c:List bp):List (bp×bp):=c.zip (c.drop 1++c.take 1)
def zg(b:bR)(l:List (List bp)):Bool:=l.any fun c=>(jQ c).any fun e=>p1 b e.1 e.2
def vZ(p a e:bp):Bool:=
 if decide (p.2<a.2)=decide (p.2<e.2) then false else if a.2<e.2 then decide (0<dN a e p) else decide (dN a e p<0)
def En(p:bp)(l:List (List bp)):Bool:=l.foldl (fun i c=>(jQ c).foldl (fun i e=>if vZ p e.1 e.2=true then !i else i) i) false
def v7(b:bR)(l:List (List bp)):Int:=if zg b l=true then 1 else if En (b.ao,b.ak) l=true then 2 else 0
def qB(was cls:Int)(add:Bool):Int:=
 if was<0∨2<was∨cls<0∨2<cls then 1
 else if cls=0 then was
 else if cls=2 then (if add=true then 2 else 0)
 else if add=true∧was=2 then 2
 else if add=false∧was=0 then 0
 else 1
def NS(x:bR)(b:dL)(sub:Int):Int:=
 if b.k=1 then uw x b.a b.r
 else if b.k=2 then v7 x b.l
 else if b.k=3 then NQ x b.a b.b b.r
 else if b.k=4 then NR x b.a b.b b.r
 else if b.k=5 then Sf x b.c b.a b.b b.r
 else sub
def G1(x:bR):bh→Int→Int
 |.nil,acc=>acc
 |.cons a b s r,acc=>G1 x r (qB acc (NS x b (G1 x s 0)) a)
def G2(x:bR)(s:ey):Int:=NS x s.b (G1 x s.p 0)
def p2(x:bR)(s:ey):Int:=if okV s=true then G2 x s else 0
def ux:Nat→Int→Int→Int→Int
 |0,lo,_,_=>lo
 |k+1,lo,hi,v=>if lo<hi then (if v≤(lo+hi)/ 2 *((lo+hi)/ 2) then ux k lo ((lo+hi)/ 2) v else ux k ((lo+hi)/ 2+1) hi v) else lo
def JZ(v:Int):Int:=ux 32 0 2147483648 v
def kH(p q:bp)(r:Int):bR:=⟨max (min p.1 q.1-r) (-536870912),max (min p.2 q.2-r) (-536870912),min (max p.1 q.1+r) 536870912,min (max p.2 q.2+r) 536870912⟩
def p3(o:Option bR)(b:bR):Option bR:=match o with
 |none=>some b
 |some a=>some ⟨min a.ao b.ao,min a.ak b.ak,max a.ar b.ar,max a.aq b.aq⟩
def G3(b:dL)(sub:Option bR→Option bR):Option bR:=
 if b.k=1 then some (kH b.a b.a b.r)
 else if b.k=3∨b.k=4 then some (kH b.a b.b b.r)
 else if b.k=5 then some (kH b.c b.c (b.r+JZ (kn b.a b.c)))
 else sub (b.l.foldl (fun o c=>c.foldl (fun o p=>p3 o (kH p p 0)) o) none)
def q':bh→Option bR→Option bR
 |.nil,o=>o
 |.cons a b s r,o=>q' r (if a=true then (match G3 b (q' s) with
  |none=>o
  |some x=>p3 o x) else o)
def v8(s:ey):Option bR:=if okV s=true then G3 s.b (q' s.p) else none
end el
