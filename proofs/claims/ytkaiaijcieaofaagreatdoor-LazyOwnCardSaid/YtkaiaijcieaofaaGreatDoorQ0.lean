/- Lemmas. -/
import Derived.Lib.ItoaLen
import Derived.Lib.TrimByte
import Derived.Below
import Derived.Laws.OwnMore
import Derived.Test.YtkaiaijcieaofaaGreatDoorProg
import Derived.WalkKit
import Derived.WalkSpells
import Derived.WalkLawsBesides
import Derived.Lib.Hide
import Derived.Deep.DeepCutAuto
import Derived.Deep.CutRange
import Derived.BigQuiet
import Derived.Deep.QuietTactic
import Derived.Outline
import Derived.Deep.DeepFit
set_option linter.all false
set_option maxHeartbeats 800000
namespace Go.Proofs.YtkaiaijcieaofaaGreatDoor
abbrev yC:=@Bool.eq_false_iff
abbrev aW:=@if_pos
abbrev aN:=@if_neg
abbrev Ng:=@Nat.pow_succ
abbrev eT:=@List.length_cons
abbrev vI:=@List.take_length
abbrev vJ:=@Classical.byContradiction
abbrev rZ:=@List.drop_eq_getElem_cons
abbrev w3:=@List.cons_append
abbrev Nh:=@List.drop_length
abbrev Ni:=@List.take_left
abbrev aP:=@Nat.le_refl
abbrev sY:=@List.take_of_length_le
abbrev Gg:=@List.take_append_drop
abbrev vK:=@Nat.pow_le_pow_right
abbrev Jl:=@Nat.mul_lt_mul_of_pos_right
abbrev Jm:=@Nat.pow_pos
abbrev Jn:=@Nat.pow_add
abbrev e8:=@List.length_drop
abbrev cd:=@Nat.le_trans
abbrev Gh:=@List.take_zero
abbrev fH:=@List.length_append
abbrev kZ:=@List.length_nil
abbrev lO:=@Nat.le_succ
abbrev r0:=@Option.some.injEq
abbrev w4:=@Nat.eq_zero_or_pos
abbrev hN:=@Nat.lt_of_lt_of_le
abbrev hC:=@RowKit.Below.heap_setCell
abbrev cO:=@Nat.zero_le
abbrev mi:=@Nat.lt_irrefl
abbrev lP:=@List.eq_nil_of_length_eq_zero
abbrev XE:=@List.take_append_of_le_length
abbrev XF:=@List.drop_append_of_le_length
abbrev ra:=@List.getElem?_take
abbrev z':=@List.getElem?_drop
abbrev Gi:=@Proofs.Tryz.func202
abbrev Gj:=@Proofs.Tryz.ntmps202
abbrev qv:=@Bool.and_eq_true
abbrev p0:=@decide_eq_true_eq
abbrev Ru:=@Bool.false_eq_true
abbrev Nj:=@Proofs.Tryz.func203
abbrev Nk:=@Proofs.Tryz.ntmps203
structure IT where
instance:CoeFun IT fun _=>Int→Value:=⟨fun _=>.int .i64⟩
def I:IT:=⟨⟩
structure JT where
instance:CoeFun JT fun _=>Nat→Value:=⟨fun _=>.slice none 0⟩
def J:JT:=⟨⟩
structure UT where
instance:CoeFun UT fun _=>Bool→Value:=⟨fun _=>.bool⟩
def U:UT:=⟨⟩
structure aaT where
instance:CoeFun aaT fun _=>ByteArray→Value:=⟨fun _=>.string⟩
def aa:aaT:=⟨⟩
structure abT where
instance:CoeFun abT fun _=>Value→Ending:=⟨fun _=>.returned⟩
def ab:abT:=⟨⟩
structure adT where
instance:CoeFun adT fun _=>Option Addr→Nat→Nat→Value:=⟨fun _=>.slice⟩
def ad:adT:=⟨⟩
structure aeT where
instance:CoeFun aeT fun _=>Int→Int:=⟨fun _=>IntKind.i64.wrap⟩
def ae:aeT:=⟨⟩
structure afT where
instance:CoeFun afT fun _=>Prop→Prop:=⟨fun _=>RowKit.Hid⟩
def af:afT:=⟨⟩
structure agT(b o n c:Nat) where
def ag(b o n c:Nat):agT b o n c:=⟨⟩
instance(b o n c:Nat):CoeOut (agT b o n c) Value:=⟨fun _=>.slice (some ⟨b,o,none⟩) n c⟩
structure ahT(b o:Nat) where
def ah(b o:Nat):ahT b o:=⟨⟩
instance(b o:Nat):CoeOut (ahT b o) Value:=⟨fun _=>.pointer (some ⟨b,o,none⟩)⟩
structure aiT(x:Array Value)(t:TypeId) where
def ai(x:Array Value)(t:TypeId):aiT x t:=⟨⟩
instance(x:Array Value)(t:TypeId):CoeOut (aiT x t) Obj:=⟨fun _=>.cells x t⟩
structure ajT(b o:Nat) where
def aj(b o:Nat):ajT b o:=⟨⟩
instance(b o:Nat):CoeOut (ajT b o) Addr:=⟨fun _=>⟨b,o,none⟩⟩
structure akT(w:World)(b o:Nat)(v:Value) where
def ak(w:World)(b o:Nat)(v:Value):akT w b o v:=⟨⟩
instance(w:World)(b o:Nat)(v:Value):CoeOut (akT w b o v) Prop:=⟨fun _=>w.cell? ⟨b,o,none⟩=some v⟩
instance(w:World)(b o:Nat)(v:Value):CoeSort (akT w b o v) Prop:=⟨fun _=>w.cell? ⟨b,o,none⟩=some v⟩
structure alT(w:World)(b:Nat)(x:Array Value)(t:TypeId) where
def al(w:World)(b:Nat)(x:Array Value)(t:TypeId):alT w b x t:=⟨⟩
instance(w:World)(b:Nat)(x:Array Value)(t:TypeId):CoeOut (alT w b x t) Prop:=⟨fun _=>w.heap[b]?=some (.cells x t)⟩
instance(w:World)(b:Nat)(x:Array Value)(t:TypeId):CoeSort (alT w b x t) Prop:=⟨fun _=>w.heap[b]?=some (.cells x t)⟩
structure anT(w x y:World) where
def an(w x y:World):anT w x y:=⟨⟩
instance(w x y:World):CoeOut (anT w x y) Prop:=⟨fun _=>RowKit.Below w.heap.size x y⟩
instance(w x y:World):CoeSort (anT w x y) Prop:=⟨fun _=>RowKit.Below w.heap.size x y⟩
theorem ao{p:Prop}(h:p):RowKit.Hid p:=h
theorem aq{A:Sort _}(a:A):∃x,a=x:=⟨a,rfl⟩
structure arT where
instance:CoeSort arT Type:=⟨fun _=>List UInt8⟩
def ar:arT:=⟨⟩
structure aeJo where
instance:CoeSort aeJo Type:=⟨fun _=>List Value⟩
def aev:aeJo:=⟨⟩
structure ajJo where
instance:CoeSort ajJo Type:=⟨fun _=>Array Value⟩
def ajv:ajJo:=⟨⟩
structure JBC where
instance:CoeSort JBC Type:=⟨fun _=>Option Addr⟩
def Ja:JBC:=⟨⟩
structure afXG where
instance:CoeSort afXG Type:=⟨fun _=>Nat→Prop⟩
def afp:afXG:=⟨⟩
structure aeXH where
instance:CoeSort aeXH Type:=⟨fun _=>World⟩
def aeo:aeXH:=⟨⟩
structure adBC where
instance:CoeSort adBC Type:=⟨fun _=>Value⟩
def ada:adBC:=⟨⟩
structure UBC where
instance:CoeSort UBC Type:=⟨fun _=>ByteArray⟩
def Ua:UBC:=⟨⟩
structure aaXI where
instance:CoeSort aaXI Type:=⟨fun _=>TypeId⟩
def aai:aaXI:=⟨⟩
namespace ga
def fi(c:UInt8):Bool:=decide (48≤c.toNat)&&decide (c.toNat≤57)
def bK(l:ar):Nat:=(l.takeWhile fi).length
def val(l:ar):Nat:=l.foldl (fun v c=>v *10+(c.toNat-48)) 0
theorem sZ(c:UInt8):fi c=true↔48≤c.toNat∧c.toNat≤57:=by simp[fi]
theorem Jp(c:UInt8):fi c=false↔c.toNat<48∨57<c.toNat:=by rw[yC,Ne,sZ];omega
theorem Nl(l:ar)(c:UInt8):val (l++[c])=val l *10+(c.toNat-48):=by simp[val]
theorem XJ:bK []=0:=rfl
theorem Nn(c:UInt8)(l:ar):bK (c::l)=if fi c then bK l+1 else 0:=by unfold bK;rw[List.takeWhile_cons];split<;>simp
theorem r1(l:ar):bK l≤l.length:=by
 unfold bK;induction l with
 |nil=>simp
 |cons c l cU=>rw[List.takeWhile_cons];split<;>simp;omega
theorem Aa(l:ar):(∀k (h:k<l.length),k<bK l→fi l[k]=true)∧(∀h:bK l<l.length,fi l[bK l]=false):=by
 induction l with
 |nil=>simp[bK]
 |cons c l cU=>
  rw[Nn];by_cases aB:fi c=true
  ·rw[aW aB];refine⟨fun k h aw=>?_,fun h=>?_⟩
   ·cases k with
    |zero=>simpa using aB
    |succ k=>simpa using cU.1 k (by simpa using h) (by omega)
   ·simpa using cU.2 (by simpa using h)
  ·rw[aN aB];exact⟨fun k h aw=>by omega,fun h=>by simpa using aB⟩
variable{l r:ar}{k:Nat}
theorem No(aw:k≤bK l)(h:k<l.length)(hd:fi l[k]=true):k<bK l:=by
 rcases Nat.lt_or_eq_of_le aw with au|au
 ·exact au
 ·subst au;have:=(Aa l).2 h;rw[this] at hd;cases hd
theorem Jq(aw:k≤bK l)(h:k<l.length)(hd:fi l[k]=false):bK l=k:=by
 rcases Nat.lt_or_eq_of_le aw with au|au
 ·have:=(Aa l).1 k h au;rw[this] at hd;cases hd
 ·exact au.symm
theorem Jr(l:ar)(h:∀c∈l,fi c=true):val l<10^l.length:=by
 have key:∀(l:ar) (v n:Nat),v<10^n→(∀c∈l,fi c=true)→l.foldl (fun v c=>v *10+(c.toNat-48)) v<10 ^(n+l.length):=by
  intro l
  induction l with
  |nil=>intro v n aS _;simpa using aS
  |cons c l cU=>
   intro v n aS az;have aB:=(sZ c).1 (az c (by simp));have:=cU (v *10+(c.toNat-48)) (n+1) (by rw[Ng];omega) (fun d hd=>az d (by simp[hd]));simp only[List.foldl_cons,eT];rw[show n+(l.length+1)=n+1+l.length by omega];exact this
 have:=key l 0 0 (by simp) h;simpa[val] using this
theorem BD(l:ar)(k:Nat)(aw:k≤bK l):∀c∈l.take k,fi c=true:=by
 intro c aB;obtain⟨i,hi,rfl⟩:=List.mem_iff_getElem.1 aB;have Js:i<k∧i<l.length:=by have:=hi;simp at this;omega
 simpa using (Aa l).1 i Js.2 (by omega)
theorem DK(l:ar)(k:Nat)(aw:k≤bK l):val (l.take k)<10^k:=by
 have h:=Jr _ (BD l k aw);have az:=r1 l;have:(l.take k).length=k:=by simp;omega
 rwa [this] at h
def strip:ar→Bool×List UInt8
 |[]=>(false,[])
 |c::r=>if c.toNat=43 then (false,r) else if c.toNat=45 then (true,r) else (false,c::r)
def oa(l:ar):Option Nat:=
 match l.drop (bK l) with
 |[]=>if bK l≤6∧bK l≠0 then some (val l *1000000) else none
 |c::t=>if c.toNat=46∧bK l≤6∧bK t≤6∧bK t=t.length∧bK l+bK t≠0 then some (val (l.take (bK l)) *1000000+val t *10 ^(6-bK t)) else none
def dec(l:ar):Option Int:=(oa (strip l).2).map fun n=>if (strip l).1 then -(n:Int) else n
theorem XK(aw:k=min 6 (bK l))(h:l.drop k=[]):bK l=k∧k=l.length:=by have au:=r1 l;have ax:l.length≤k:=List.drop_eq_nil_iff.1 h;omega
theorem ag7(aw:k=min 6 (bK l))(h:l.drop k=[]):oa l=if k=0 then none else some (val (l.take k) *1000000):=by
 obtain⟨au,ax⟩:=XK aw h;unfold oa;rw[au,h];have aA:l.take k=l:=by rw[ax];exact vI
 rw[aA];by_cases aF:k=0
 ·simp[aF]
 ·have:k≤6:=(by omega);simp[aF,this]
variable{c:UInt8}
theorem ag8(aw:k=min 6 (bK l))(h:l.drop k=c::r)(aB:fi c=false):bK l=k:=by
 have az:k<l.length:=by apply vJ;intro hn;rw[List.drop_eq_nil_iff.2 (by omega)] at h;cases h
 have rb:l[k]=c:=by have:=rZ az;rw[h] at this;injection this with a b;exact a.symm
 exact Jq (by omega) az (by rw[rb];exact aB)
theorem ag9(aw:k=min 6 (bK l))(h:l.drop k=c::r)(aB:¬c.toNat=46):oa l=none:=by
 unfold oa;by_cases b8:bK l≤6
 ·have:bK l=k:=(by omega);rw[this,h];simp[aB]
 ·split
  ·simp[b8]
  ·simp[b8]
theorem aha{m:Nat}(aw:k=min 6 (bK l))(h:l.drop k=c::r)(aB:c.toNat=46)(hm:m=min 6 (bK r)):
  oa l=if r.drop m=[]∧¬k+m=0 then some (val (l.take k) *1000000+val (r.take m) *10 ^(6-m)) else none:=by
 have hn:=ag8 aw h ((Jp c).2 (by omega));unfold oa;rw[hn,h];simp only;by_cases au:r.drop m=[]
 ·obtain⟨aY,a6⟩:=XK hm au;have cV:r.take m=r:=(by rw[a6];exact vI);rw[cV,aY];by_cases ax:k+m=0
  ·simp[ax]
  ·rw[aW ⟨aB,by omega,by omega,a6,ax⟩,aW ⟨au,ax⟩]
 ·rw[aN (by rintro⟨_,_,aA,bb,_⟩;apply au;apply List.drop_eq_nil_iff.2;omega),aN (by rintro⟨aA,_⟩;exact au aA)]
def r2(n:Int):Bool:=decide (-1000000000000<n)&&decide (n<1000000000000)
theorem ahb(n:Int):r2 n=true↔-1000000000000<n∧n<1000000000000:=by simp[r2]
end ga
namespace ga
open Go.Lib (dg nDigits decDigits trimRightB)
theorem Rv(D:ar)(h:∀c∈D,fi c=true)(r:ar):bK (D++r)=D.length+bK r:=by
 induction D with
 |nil=>simp
 |cons c D cU=>
  rw[w3,Nn,aW (h c (by simp)),cU (fun d hd=>h d (by simp[hd])),eT];omega
theorem XL(t:ar):bK (46::t)=0:=by rw[Nn];rfl
theorem ahc(D:ar)(h:∀c∈D,fi c=true):oa D=if D.length≤6∧D.length≠0 then some (val D *1000000) else none:=by
 have hn:bK D=D.length:=by have:=Rv D h [];simpa[XJ] using this
 unfold oa;rw[hn,Nh]
theorem ahd(D F:ar)(h:∀c∈D,fi c=true)(hF:∀c∈F,fi c=true):
  oa (D++46::F)=if D.length≤6∧F.length≤6∧D.length+F.length≠0 then some (val D *1000000+val F *10 ^(6-F.length)) else none:=by
 have hn:bK (D++46::F)=D.length:=by rw[Rv D h,XL];rfl
 have hf:bK F=F.length:=by have:=Rv F hF [];simpa[XJ] using this
 unfold oa;rw[hn,List.drop_left,Ni];simp only;rw[hf];by_cases aI:D.length≤6∧F.length≤6∧D.length+F.length≠0
 ·rw[aW aI,aW ⟨rfl,aI.1,aI.2.1,rfl,aI.2.2⟩]
 ·rw[aN aI,aN (fun h=>aI ⟨h.2.1,h.2.2.1,h.2.2.2.2⟩)]
variable{l:ar}
theorem XM{n:Nat}(h:oa l=some n):
  (∀c∈l,fi c=true)∨∃D F,l=D++46::F∧(∀c∈D,fi c=true)∧(∀c∈F,fi c=true):=by
 unfold oa at h;split at h
 ·rename_i hd;left;have au:l.length≤bK l:=List.drop_eq_nil_iff.1 hd;have:=BD l (bK l) (aP _)
  rwa [sY au] at this
 ·rename_i c t hd;split at h
  ·rename_i aI;right;refine⟨l.take (bK l),t,?_,BD l (bK l) (aP _),?_⟩
   ·have kj:c=46:=UInt8.toNat_inj.1 aI.1;subst kj;rw[←hd];exact (Gg _ _).symm
   ·have:=BD t (bK t) (aP _)
    rwa [sY (by omega)] at this
  ·cases h
theorem XN{n:Nat}(h:oa l=some n):n<1000000000000:=by
 rcases XM h with hd|⟨D,F,rfl,b4,hF⟩
 ·rw[ahc l hd] at h;split at h
  ·rename_i aI;injection h with h;have au:=Jr l hd;have ax:10^l.length≤10^6:=vK (by decide) aI.1;omega
  ·cases h
 ·rw[ahd D F b4 hF] at h;split at h
  ·rename_i aI;injection h with h;have au:=Jr D b4;have ax:10^D.length≤10^6:=vK (by decide) aI.1;have aA:=Jr F hF;have bb:val F *10 ^(6-F.length)<10^F.length *10 ^(6-F.length):=Jl aA (Jm (by decide));rw[←Jn,show F.length+(6-F.length)=6 by omega] at bb;omega
  ·cases h
theorem ahe{c:UInt8}(h:fi c=true)(r:ar):strip (c::r)=(false,c::r):=by have:=(sZ c).1 h;simp only[strip];rw[aN (by omega),aN (by omega)]
end ga
namespace ph
open ga
structure ds where
 r:List UInt8
 ops:List (Int×Int)
 e:Nat
def hd(r:ar):UInt8:=r.headD 0
def put(st:ds)(k n:Int):ds:=if st.e=0 then⟨st.r,st.ops++[(k,n)],0⟩ else st
def re(D:ar):Nat:=D.foldl (fun n c=>min (10 *n+(c.toNat-48)) 100) 0
def iR(st:ds):ds:=
 if re ((st.r.drop 1).take (bK (st.r.drop 1)))<1∨99<re ((st.r.drop 1).take (bK (st.r.drop 1)))∨hd (st.r.drop 1)=48 then⟨st.r,st.ops,3⟩
 else⟨(st.r.drop 1).drop (bK (st.r.drop 1)),st.ops++[(2,(re ((st.r.drop 1).take (bK (st.r.drop 1))):Int))],0⟩
def mj(r:ar):Nat:=if hd (r.drop (bK r))=46 then bK r+1+bK (r.drop (bK r+1)) else bK r
def jB(st:ds):ds:=
 match dec (st.r.take (mj st.r)) with
 |none=>⟨st.r,st.ops,3⟩
 |some n=>⟨st.r.drop (mj st.r),st.ops++[(1,n)],0⟩
def vL(c:UInt8):Bool:=c==43 || c==45 || c==40
def oP(st:ds):ds:=if hd st.r=36 then iR st else if (hd st.r==46 || fi (hd st.r))=true then jB st else⟨st.r,st.ops,3⟩
def BE(c:UInt8):Option Nat:=if c=120∨c=88 then some 5 else if c=47 then some 6 else none
def DL(c:UInt8):Option Nat:=if c=43 then some 3 else if c=45 then some 4 else none
def p1(op:UInt8→Option Nat)(f:ds→ds):Nat→ds→ds
 |0,st=>st
 |k+1,st=>if st.e=0 then (match op (hd st.r) with|none=>st|some q=>p1 op f k (put (f ⟨st.r.drop 1,st.ops,0⟩) q 0)) else st
def ob(f:ds→ds)(st:ds):ds:=p1 BE f (st.r.length+1) (f st)
def pj(f:ds→ds)(st:ds):ds:=p1 DL (ob f) (st.r.length+1) (ob f st)
def s3(st:ds):ds:=if st.e=0 then (if hd st.r=41 then⟨st.r.drop 1,st.ops,0⟩ else⟨st.r,st.ops,3⟩) else st
def rf(f:ds→ds)(c:UInt8)(st:ds):ds:=
 if c=40 then s3 (pj f st) else if c=45 then put (f st) 7 0 else f st
def e4:Nat→ds→ds
 |0,st=>if vL (hd st.r)=true then⟨st.r,st.ops,6⟩ else oP st
 |d+1,st=>if vL (hd st.r)=true then rf (e4 d) (hd st.r) ⟨st.r.drop 1,st.ops,st.e⟩ else oP st
def p2(st:ds):Nat:=if st.e=0 then (if st.r=[] then 0 else 3) else st.e
def iF(s:ar):ds:=pj (e4 30) ⟨s,[],0⟩
def uu(s:ar):List (Int×Int)× Nat×Nat:=
 if 300<s.length then ([],0,6) else if p2 (iF s)=0 then ((iF s).ops,0,0) else ([],s.length -(iF s).r.length,p2 (iF s))
theorem s4(st:ds)(k n:Int):(put st k n).r=st.r:=by unfold put;split<;>rfl
theorem ahf(st:ds):(iR st).r.length≤st.r.length:=by
 unfold iR;split
 ·exact aP _
 ·simp only[e8];omega
theorem ahg(st:ds):(jB st).r.length≤st.r.length:=by
 unfold jB;split
 ·exact aP _
 ·simp
theorem XO(st:ds):(oP st).r.length≤st.r.length:=by
 unfold oP;split
 ·exact ahf st
 ·split
  ·exact ahg st
  ·exact aP _
def Down(f:ds→ds):Prop:=∀st,(f st).r.length≤st.r.length
theorem Rw{op:UInt8→Option Nat}{f:ds→ds}(hf:Down f):∀k st,(p1 op f k st).r.length≤st.r.length
 |0,st=>aP _
 |k+1,st=>by
  rw[p1];split
  ·split
   ·exact aP _
   ·rename_i q _;have au:=Rw (op:=op) hf k (put (f ⟨st.r.drop 1,st.ops,0⟩) q 0);rw[s4] at au;have ax:=hf ⟨st.r.drop 1,st.ops,0⟩;simp only[e8] at ax;omega
  ·exact aP _
variable{f:ds→ds}
theorem Jt(hf:Down f):Down (ob f):=fun st=>cd (Rw hf _ _) (hf st)
theorem ahh(hf:Down f):Down (pj f):=fun st=>cd (Rw (Jt hf) _ _) (Jt hf st)
theorem ahi(st:ds):(s3 st).r.length≤st.r.length:=by
 unfold s3;split
 ·split
  ·simp
  ·exact aP _
 ·exact aP _
theorem ahj(hf:Down f)(c:UInt8):Down (rf f c):=fun st=>by
 unfold rf;split
 ·exact cd (ahi _) (ahh hf st)
 ·split
  ·rw[s4];exact hf st
  ·exact hf st
theorem BF:∀d,Down (e4 d)
 |0,st=>by
  rw[e4];split
  ·exact aP _
  ·exact XO st
 |d+1,st=>by
  rw[e4];split
  ·have:=ahj (BF d) (hd st.r) ⟨st.r.drop 1,st.ops,st.e⟩;simp only[e8] at this;omega
  ·exact XO st
variable{st:ds}
theorem Np{op:UInt8→Option Nat}(k:Nat)(h:st.e=0→op (hd st.r)=none):p1 op f k st=st:=by
 cases k with
 |zero=>rfl
 |succ k=>
  rw[p1];split
  ·rename_i he;rw[h he]
  ·rfl
theorem ahk{op:UInt8→Option Nat}(k:Nat){q:Nat}(he:st.e=0)(h:op (hd st.r)=some q):p1 op f (k+1) st=p1 op f k (put (f ⟨st.r.drop 1,st.ops,0⟩) q 0):=by rw[p1,aW he,h]
theorem Rx{op:UInt8→Option Nat}(aF:op 0=none){r:ar}{q:Nat}(h:op (hd r)=some q):r≠[]:=by rintro rfl;rw[show hd []=0 from rfl,aF] at h;cases h
inductive T where
 |num (n:Nat)
 |var (n:Nat)
 |neg (t:T)
 |bin (k:Nat) (a b:T)
def pk:T→List (Int×Int)
 |.num n=>[(1,(n:Int))]
 |.var n=>[(2,(n:Int))]
 |.neg t=>pk t++[(7,0)]
 |.bin k a b=>pk a++(pk b++[((k:Int),0)])
def NumLit(u:ar):Prop:=u≠[]∧((∀c∈u,fi c=true)∨∃D F,u=D++46::F∧(∀c∈D,fi c=true)∧∀c∈F,fi c=true)
inductive G:Nat→Nat→ar→T→Prop where
 |num {d:Nat} {u:ar} {n:Nat}:NumLit u→dec u=some (n:Int)→G 0 d u (.num n)
 |var {d:Nat} {u:ar} {n:Nat}:(∀c∈u,fi c=true)→re u=n→1≤n→n≤99→hd u≠48→G 0 d (36::u) (.var n)
 |plus {d:Nat} {u:ar} {t:T}:G 0 d u t→G 0 (d+1) (43::u) t
 |neg {d:Nat} {u:ar} {t:T}:G 0 d u t→G 0 (d+1) (45::u) (.neg t)
 |par {d:Nat} {u:ar} {t:T}:G 2 d u t→G 0 (d+1) (40::(u++[41])) t
 |XP {d:Nat} {u:ar} {t:T}:G 0 d u t→G 1 d u t
 |pop {d:Nat} {u v:ar} {c:UInt8} {k:Nat} {a b:T}:G 1 d u a→G 0 d v b→BE c=some k→G 1 d (u++c::v) (.bin k a b)
 |XQ {d:Nat} {u:ar} {t:T}:G 1 d u t→G 2 d u t
 |XR {d:Nat} {u v:ar} {c:UInt8} {k:Nat} {a b:T}:G 2 d u a→G 1 d v b→DL c=some k→G 2 d (u++c::v) (.bin k a b)
end ph
namespace ph
open ga
open Go.Lib (decDigits nDigits)
variable{r u:ar}
theorem Nq(h:r≠[]):r=hd r::r.drop 1:=by
 cases r with
 |nil=>exact absurd rfl h
 |cons c r=>rfl
theorem ahl(h:hd u=46∨fi (hd u)=true)(hne:u≠[]):strip u=(false,u):=by
 cases u with
 |nil=>exact absurd rfl hne
 |cons c u=>
  rcases h with h|h
  ·have:c=46:=h;subst this;rfl
  ·exact ahe h u
theorem ahm{n:Int}(h:hd u=46∨fi (hd u)=true)(hne:u≠[])(hn:dec u=some n):∃m:Nat,n=(m:Int)∧NumLit u:=by
 unfold dec at hn;rw[ahl h hne] at hn;cases hu:oa u with
 |none=>rw[hu] at hn;cases hn
 |some m=>
  rw[hu] at hn;simp at hn;exact⟨m,hn.symm,hne,XM hu⟩
theorem Ry{k:Nat}(aw:0<k):hd (r.take k)=hd r:=by
 cases r with
 |nil=>simp
 |cons c r=>
  obtain⟨k,rfl⟩:∃j,k=j+1:=⟨k-1,by omega⟩;rfl
theorem XS(h:hd r=46∨fi (hd r)=true):0<mj r:=by
 unfold mj;cases r with
 |nil=>rcases h with h|h<;>(revert h;decide)
 |cons c r=>
  by_cases gL:fi c=true
  ·have:0<bK (c::r):=(by rw[Nn,aW gL];omega);split<;>omega
  ·have kj:c=46:=by
    rcases h with h|h
    ·exact h
    ·exact absurd h gL
   subst kj;have:bK (46::r)=0:=XL r;rw[this];rw[aW (show hd (List.drop 0 (46::r))=46 from rfl)];omega
variable{st:ds}
theorem XT(h:(oP st).e=0):∃u t,st.r=u++(oP st).r∧(oP st).ops=st.ops++pk t∧∀d,G 0 d u t:=by
 unfold oP at h⊢;by_cases ml:hd st.r=36
 ·rw[aW ml] at h⊢;unfold iR at h⊢;split at h
  ·cases h
  ·rename_i aB;rw[aN aB];have hne:st.r≠[]:=(by intro e;rw[e] at ml;revert ml;decide);have hr:=Nq hne;rw[ml] at hr;generalize st.r.drop 1=x at aB hr;refine⟨36::x.take (bK x),.var (re (x.take (bK x))),?_,rfl,fun d=>.var (BD x _ (aP _)) rfl (by omega) (by omega) ?_⟩
   ·rw[hr,w3,Gg]
   ·intro aF;apply aB;right;right;by_cases hx:bK x=0
    ·rw[hx,Gh] at aF;exact absurd aF (by decide)
    ·rw[Ry (by omega)] at aF;exact aF
 ·rw[aN ml] at h⊢;by_cases hn:(hd st.r==46 || fi (hd st.r))=true
  ·rw[aW hn] at h⊢;have BG:hd st.r=46∨fi (hd st.r)=true:=(by simpa using hn);unfold jB at h⊢;cases DM:dec (st.r.take (mj st.r)) with
   |none=>rw[DM] at h;cases h
   |some n=>
    simp only;have hp:=XS BG;have hne:st.r.take (mj st.r)≠[]:=by intro e;have au:=Ry (r:=st.r) hp;rw[e] at au;rw[←au] at BG;rcases BG with h|h<;>(revert h;decide)
    obtain⟨m,rfl,az⟩:=ahm (by rw[Ry hp];exact BG) hne DM;exact⟨st.r.take (mj st.r),.num m,(Gg _ _).symm,rfl,fun d=>.num az DM⟩
  ·rw[aN hn] at h;cases h
theorem XU{k n:Int}(h:(put st k n).e=0):st.e=0∧(put st k n).ops=st.ops++[(k,n)]:=by
 unfold put at h⊢;split
 ·rename_i he;exact⟨he,rfl⟩
 ·rename_i he;rw[aN he] at h;exact absurd h he
theorem Rz{op:UInt8→Option Nat}(aF:op 0=none){f:ds→ds}{lc Nr d:Nat}(hf:∀st,(f st).e=0→∃v b,st.r=v++(f st).r∧(f st).ops=st.ops++pk b∧G Nr d v b)
  (aB:∀{u v:ar} {c:UInt8} {k:Nat} {a b:T},G lc d u a→G Nr d v b→op c=some k→G lc d (u++c::v) (.bin k a b)):
  ∀(k:Nat) (st:ds) (u du:ar) (a:T) (Ju:List (Int×Int)),du=u++st.r→st.ops=Ju++pk a→G lc d u a→(p1 op f k st).e=0→
   ∃yD t,du=yD++(p1 op f k st).r∧(p1 op f k st).ops=Ju++pk t∧G lc d yD t
 |0,st,u,du,a,Ju,au,ax,aA,_=>⟨u,a,au,ax,aA⟩
 |k+1,st,u,du,a,Ju,au,ax,aA,he=>by
  rw[p1] at he⊢;by_cases bP:st.e=0
  ·rw[aW bP] at he⊢;cases aG:op (hd st.r) with
   |none=>exact⟨u,a,au,ax,aA⟩
   |some q=>
    rw[aG] at he;simp only at he⊢;have hr:=Nq (Rx aF aG);have Ns:(put (f ⟨st.r.drop 1,st.ops,0⟩) q 0).e=0:=(by apply vJ;intro hn;rw[Np _ (fun h=>absurd h hn)] at he;exact hn he);obtain⟨Jv,ahn⟩:=XU Ns;obtain⟨v,b,g1,g2,g3⟩:=hf _ Jv;refine Rz aF hf aB k _ (u++hd st.r::v) du (.bin q a b) Ju ?_ ?_ (aB aA g3 aG) he
    ·rw[s4,au,hr,List.append_assoc]
     congr 1
     rw[w3]
     congr 1
    ·rw[ahn,g2,ax];simp[pk]
  ·rw[aN bP] at he;exact absurd he bP
variable{f:ds→ds}
theorem XV{d:Nat}(hf:∀st,(f st).e=0→∃v b,st.r=v++(f st).r∧(f st).ops=st.ops++pk b∧G 0 d v b)(st:ds)(h:(ob f st).e=0):
  ∃v b,st.r=v++(ob f st).r∧(ob f st).ops=st.ops++pk b∧G 1 d v b:=by
 have Jv:(f st).e=0:=by apply vJ;intro hn;unfold ob at h;rw[Np _ (fun h=>absurd h hn)] at h;exact hn h
 obtain⟨v,b,g1,g2,g3⟩:=hf st Jv;exact Rz rfl hf (fun au ax aA=>.pop au ax aA) _ (f st) v st.r b st.ops g1 g2 (.XP g3) h
theorem XW{d:Nat}(hf:∀st,(f st).e=0→∃v b,st.r=v++(f st).r∧(f st).ops=st.ops++pk b∧G 0 d v b)(st:ds)(h:(pj f st).e=0):
  ∃v b,st.r=v++(pj f st).r∧(pj f st).ops=st.ops++pk b∧G 2 d v b:=by
 have Jv:(ob f st).e=0:=by apply vJ;intro hn;unfold pj at h;rw[Np _ (fun h=>absurd h hn)] at h;exact hn h
 obtain⟨v,b,g1,g2,g3⟩:=XV hf st Jv;exact Rz rfl (XV hf) (fun au ax aA=>.XR au ax aA) _ (ob f st) v st.r b st.ops g1 g2 (.XQ g3) h
theorem Nt{c:UInt8}(h:vL c=true):c=43∨c=45∨c=40:=by
 unfold vL at h;simp at h;rcases h with (h|h)|h
 ·exact .inl h
 ·exact .inr (.inl h)
 ·exact .inr (.inr h)
theorem Nu:∀(d:Nat) (st:ds),(e4 d st).e=0→∃u t,st.r=u++(e4 d st).r∧(e4 d st).ops=st.ops++pk t∧G 0 d u t
 |0,st,h=>by
  rw[e4] at h⊢;split at h
  ·cases h
  ·rename_i hs;rw[aN hs];obtain⟨u,t,au,ax,aA⟩:=XT h;exact⟨u,t,au,ax,aA 0⟩
 |d+1,st,h=>by
  rw[e4] at h⊢;by_cases hs:vL (hd st.r)=true
  ·rw[aW hs] at h⊢;have hne:st.r≠[]:=(by intro e;rw[e] at hs;revert hs;decide);have hr:=Nq hne;generalize st.r.drop 1=x at h hr⊢;unfold rf at h⊢;rcases Nt hs with aB|aB|aB
   ·rw[aB] at h hr⊢;rw[aN (by decide),aN (by decide)] at h⊢;obtain⟨u,t,au,ax,aA⟩:=Nu d _ h;exact⟨43::u,t,by rw[hr,w3];congr 1,ax,.plus aA⟩
   ·rw[aB] at h hr⊢;rw[aN (by decide),aW rfl] at h⊢;obtain⟨he,hp⟩:=XU h;obtain⟨u,t,au,ax,aA⟩:=Nu d _ he;refine⟨45::u,.neg t,by rw[hr,s4,w3];congr 1,?_,.neg aA⟩;rw[hp,ax];simp[pk]
   ·rw[aB] at h hr⊢;rw[aW rfl] at h⊢;have XX:=XW (Nu d) ⟨x,st.ops,st.e⟩;generalize pj (e4 d) ⟨x,st.ops,st.e⟩=s1 at h XX⊢;unfold s3 at h⊢;by_cases he:s1.e=0
    ·rw[aW he] at h⊢;by_cases s5:hd s1.r=41
     ·rw[aW s5] at h⊢;obtain⟨u,t,au,ax,aA⟩:=XX he;have Gk:s1.r≠[]:=(by intro e;rw[e] at s5;revert s5;decide);have hD:=Nq Gk;rw[s5] at hD;refine⟨40::(u++[41]),t,?_,ax,.par aA⟩;have DN:x=u++s1.r:=au;show st.r=40::(u++[41])++s1.r.drop 1;rw[hr,w3,List.append_assoc,DN]
      congr 2
     ·rw[aN s5] at h;cases h
    ·rw[aN he] at h;exact absurd h he
  ·rw[aN hs] at h⊢;obtain⟨u,t,au,ax,aA⟩:=XT h;exact⟨u,t,au,ax,aA _⟩
theorem aho{s:ar}{l:List (Int×Int)}{rh:Nat}(h:uu s=(l,rh,0)):∃t,l=pk t∧G 2 30 s t∧s.length≤300:=by
 unfold uu at h;split at h
 ·simp at h
 ·rename_i hs;split at h
  ·rename_i he
   have bP:(iF s).e=0∧(iF s).r=[]:=by
    unfold p2 at he;split at he
    ·rename_i aF;split at he
     ·rename_i au;exact⟨aF,au⟩
     ·cases he
    ·rename_i aF;exact absurd he aF
   obtain⟨u,t,au,ax,aA⟩:=XW (Nu 30) ⟨s,[],0⟩ bP.1;have hr:(pj (e4 30) ⟨s,[],0⟩).r=[]:=bP.2;rw[hr,List.append_nil] at au;have DN:s=u:=au;subst DN;injection h with h _;refine⟨t,?_,aA,by omega⟩;rw[←h];show (pj (e4 30) ⟨s,[],0⟩).ops=_;rw[ax];rfl
  ·rename_i he;simp at h;exact absurd h.2.2 he
def BH(f:ds→ds):Prop:=∀st,(f st).ops.length+(f st).r.length≤st.ops.length+st.r.length
theorem RA(st:ds)(k n:Int):(put st k n).ops.length≤st.ops.length+1:=by
 unfold put;split
 ·simp
 ·omega
theorem XY(st:ds):(oP st).ops.length+(oP st).r.length≤st.ops.length+st.r.length:=by
 unfold oP;split
 ·rename_i ml;have hne:st.r≠[]:=(by intro e;rw[e] at ml;exact absurd ml (by decide));have hp:=List.length_pos_iff.2 hne;unfold iR;split
  ·exact aP _
  ·simp only[fH,eT,kZ,e8];omega
 ·split
  ·rename_i hn;have BG:hd st.r=46∨fi (hd st.r)=true:=(by simpa using hn);have hp:=XS BG;have hne:st.r≠[]:=by intro e;rw[e] at BG;rcases BG with h|h<;>exact absurd h (by decide)
   have az:=List.length_pos_iff.2 hne;unfold jB;split
   ·exact aP _
   ·simp only[fH,eT,kZ,e8];omega
  ·exact aP _
theorem RB{op:UInt8→Option Nat}(aF:op 0=none){f:ds→ds}(hf:BH f):∀k st,(p1 op f k st).ops.length+(p1 op f k st).r.length≤st.ops.length+st.r.length
 |0,st=>aP _
 |k+1,st=>by
  rw[p1];split
  ·split
   ·exact aP _
   ·rename_i q aG;have hp:=List.length_pos_iff.2 (Rx aF aG);have au:=RB aF hf k (put (f ⟨st.r.drop 1,st.ops,0⟩) q 0);have ax:=RA (f ⟨st.r.drop 1,st.ops,0⟩) q 0;have aA:=hf ⟨st.r.drop 1,st.ops,0⟩;rw[s4] at au;simp only[e8] at aA;omega
  ·exact aP _
theorem DO(hf:BH f):BH (ob f):=fun st=>cd (RB rfl hf _ _) (hf st)
theorem ahp(hf:BH f):BH (pj f):=fun st=>cd (RB rfl (DO hf) _ _) (DO hf st)
theorem ahq(st:ds):(s3 st).ops.length+(s3 st).r.length≤st.ops.length+st.r.length:=by
 unfold s3;split
 ·split
  ·simp only[e8];omega
  ·exact aP _
 ·exact aP _
theorem ahr(hf:BH f)(c:UInt8)(st:ds):(rf f c st).ops.length+(rf f c st).r.length≤st.ops.length+st.r.length+1:=by
 unfold rf;split
 ·exact cd (cd (ahq _) (ahp hf st)) (lO _)
 ·split
  ·rw[s4];have au:=RA (f st) 7 0;have ax:=hf st;omega
  ·exact cd (hf st) (lO _)
theorem XZ(h:vL (hd r)=true):r≠[]:=by intro e;rw[e] at h;exact absurd h (by decide)
theorem s6:∀d,BH (e4 d)
 |0,st=>by
  rw[e4];split
  ·exact aP _
  ·exact XY st
 |d+1,st=>by
  rw[e4];split
  ·rename_i hs;have au:=ahr (s6 d) (hd st.r) ⟨st.r.drop 1,st.ops,st.e⟩;have ax:=List.length_pos_iff.2 (XZ hs);simp only[e8] at au;omega
  ·exact XY st
end ph
namespace ef
abbrev b7:=Int×Int
structure dK where
 k:Int
 a:b7
 b:b7
 c:b7
 r:Int
 l:List (List b7)
deriving DecidableEq
def fN:dK:=⟨0,(0,0),(0,0),(0,0),0,[]⟩
inductive bf where
 |nil
 |cons (add:Bool) (b:dK) (sub:bf) (rest:bf)
deriving DecidableEq
structure dq where
 b:dK
 p:bf
deriving DecidableEq
def RC:dq:=⟨fN,.nil⟩
namespace bf
def len:bf→Nat
 |nil=>0
 |cons _ _ _ r=>r.len+1
def count:bf→Nat
 |nil=>0
 |cons _ _ s r=>s.count+r.count+1
def append:bf→bf→bf
 |nil,q=>q
 |cons a b s r,q=>cons a b s (r.append q)
def one(a:Bool)(s:dq):bf:=cons a s.b s.p nil
end bf
def gU(p:b7):Bool:=decide (-536870912≤p.1)&&(decide (p.1≤536870912)&&(decide (-536870912≤p.2)&&decide (p.2≤536870912)))
def yE(r:Int):Bool:=decide (1≤r)&&decide (r≤536870912)
def z2:b7:=(0,0)
def uv(b:dK)(n:Nat):Bool:=
 if (b.k≠2∧0<b.l.length)∨(b.k≠6∧0<n) then false
 else if b.k=1 then decide (b.b=z2)&&decide (b.c=z2)
 else if b.k=3∨b.k=4 then decide (b.c=z2)
 else if b.k=2∨b.k=6 then decide (b.a=z2)&&(decide (b.b=z2)&&(decide (b.c=z2)&&decide (b.r=0)))
 else true
def Gl(l:List (List b7)):Bool:=decide ((l.map List.length).sum≤1000)&&l.all fun c=>c.all gU
def Gm(p q:b7):Int:=(p.1-q.1) *(p.1-q.1)+(p.2-q.2) *(p.2-q.2)
def Ab(c a e:b7):Bool:=decide (Gm a c≠0)&&decide (Gm a c=Gm e c)
def jS(b:dK):Bool:=
 if b.k=1 then gU b.a&&yE b.r
 else if b.k=2 then Gl b.l
 else if b.k=3 then gU b.a&&(gU b.b&&yE b.r)
 else if b.k=4 then gU b.a&&(gU b.b&&(yE b.r&&decide (b.a≠b.b)))
 else if b.k=5 then gU b.a&&(gU b.b&&(gU b.c&&(yE b.r&&Ab b.c b.a b.b)))
 else false
def ir:bf→Nat→Int→Option Int
 |.nil,_,left=>some left
 |.cons _ b s r,f,left=>
  if left<1∨uv b s.len=false then none
  else if b.k=6 then (if 8≤f then none else match ir s (f+1) (left-1) with
   |none=>none
   |some m=>ir r f m)
  else if jS b=true then ir r f (left-1) else none
def okV(s:dq):Bool:=(ir (.one true s) 0 1000).isSome
structure gj where
 bx:Bool
 bO:Bool
 q:Int
 eI:b7
deriving DecidableEq
def mX:gj:=⟨false,false,0,(0,0)⟩
def flip(c:Bool)(v:Int):Int:=if c then -v else v
def Nv(q:Int)(p:b7):b7:=if q%4=1 then (-p.2,p.1) else if q%4=2 then (-p.1,-p.2) else if q%4=3 then (p.2,-p.1) else p
def fI(t:gj)(p:b7):b7:=((Nv t.q (flip t.bx p.1,flip t.bO p.2)).1+t.eI.1,(Nv t.q (flip t.bx p.1,flip t.bO p.2)).2+t.eI.2)
def BI(t:gj)(b:dK):dK:=
 if b.k=1 then {fN with k:=1,r:=b.r,a:=fI t b.a}
 else if b.k=3∨b.k=4 then {fN with k:=b.k,r:=b.r,a:=fI t b.a,b:=fI t b.b}
 else if b.k=5 then {fN with k:=5,r:=b.r,a:=(if t.bx≠t.bO then fI t b.b else fI t b.a),b:=(if t.bx≠t.bO then fI t b.a else fI t b.b),c:=fI t b.c}
 else if b.k=2 then {fN with k:=2,r:=b.r,l:=b.l.map fun c=>c.map (fI t)}
 else {fN with k:=b.k,r:=b.r}
def po(t:gj):bf→bf
 |.nil=>.nil
 |.cons a b s r=>.cons a (BI t b) (if b.k=6 then po t s else .nil) (po t r)
def pq(t:gj)(s:dq):dq:=⟨BI t s.b,if s.b.k=6 then po t s.p else .nil⟩
def ri(t:gj)(s:dq):Option dq:=if okV s=true∧okV (pq t s)=true then some (pq t s) else none
theorem bf.uw(p q:bf):(p.append q).len=p.len+q.len:=by
 induction p with
 |nil=>simp[append,len]
 |cons a b s r _ cU=>simp[append,len,cU];omega
theorem bf.append_nil(p:bf):p.append .nil=p:=by
 induction p with
 |nil=>rfl
 |cons a b s r _ cU=>simp[append,cU]
theorem bf.append_assoc(p q r:bf):(p.append q).append r=p.append (q.append r):=by
 induction p with
 |nil=>rfl
 |cons a b s t _ cU=>simp[append,cU]
theorem bf.count_append(p q:bf):(p.append q).count=p.count+q.count:=by
 induction p with
 |nil=>simp[append,count]
 |cons a b s r _ cU=>simp[append,count,cU];omega
theorem bf.Nw(p:bf):p.len≤p.count:=by
 induction p with
 |nil=>simp[len]
 |cons a b s r _ cU=>simp[len,count];omega
theorem Nx(t:gj)(p:bf):(po t p).len=p.len:=by
 induction p with
 |nil=>rfl
 |cons a b s r _ cU=>simp[po,bf.len,cU]
theorem RD{p:bf}:∀{f:Nat} {n m:Int},ir p f n=some m→m≤n∧n-m=p.count:=by
 induction p with
 |nil=>intro f n m h;simp only[ir,r0] at h;subst h;simp[bf.count]
 |cons a b s r DP yF=>
  intro f n m h;unfold ir at h;split at h
  ·cases h
  ·rename_i aF
   have ay:uv b s.len=true:=by
    cases hx:uv b s.len
    ·exact absurd (.inr hx) aF
    ·rfl
   split at h
   ·split at h
    ·cases h
    ·split at h
     ·cases h
     ·rename_i k aw;have au:=DP aw;have ax:=yF h;simp only[bf.count];omega
   ·rename_i b8;split at h
    ·have ax:=yF h
     have hs:s.len=0:=by
      rcases w4 s.len with e|e
      ·exact e
      ·unfold uv at ay;rw[aW (.inr ⟨b8,e⟩)] at ay;cases ay
     have aB:s.count=0:=by
      cases s with
      |nil=>rfl
      |cons _ _ _ _=>simp[bf.len] at hs
     simp only[bf.count,aB];omega
    ·cases h
theorem ahs{s:dq}(h:okV s=true):s.p.count+1≤1000:=by
 unfold okV at h;obtain⟨m,hm⟩:=Option.isSome_iff_exists.1 h;have au:=RD hm;have ax:(bf.one true s).count=s.p.count+1:=by simp[bf.one,bf.count]
 have aA:0≤m:=by
  by_cases aF:0≤m
  ·exact aF
  ·exfalso;clear au ax h;unfold bf.one ir at hm
   have key:∀(p:bf) (f:Nat) (n k:Int),0≤n→ir p f n=some k→0≤k:=by
    intro p
    induction p with
    |nil=>intro f n k hn aw;simp only[ir,r0] at aw;omega
    |cons a b s r DP yF=>
     intro f n k hn aw;unfold ir at aw;split at aw
     ·cases aw
     ·rename_i aF;split at aw
      ·split at aw
       ·cases aw
       ·split at aw
        ·cases aw
        ·rename_i j b6;exact yF f j k (DP _ _ _ (by omega) b6) aw
      ·split at aw
       ·exact yF f _ k (by omega) aw
       ·cases aw
   have:=key (.cons true s.b s.p .nil) 0 1000 m (by decide) (by unfold ir;exact hm);omega
 omega
structure RE where
 eC:Int
 dH:Int
 eu:Int
 c0:Int
deriving DecidableEq
def yG(v lo hi:Int):Int:=if v<lo then lo-v else if hi<v then v-hi else 0
end ef
namespace c1
open Go.RowKit ef
abbrev de:TypeId:=38
abbrev e0:TypeId:=45
abbrev ev:TypeId:=47
abbrev cQ:TypeId:=42
abbrev cC:Value:=J 0
structure aK(S:afp)(w w':aeo):Prop where
 os:w'.os=w.os
 tape:w'.tape=w.tape
 output:w'.output=w.output
 size:w.heap.size≤w'.heap.size
 block:∀k,S k→k<w.heap.size→w'.heap[k]?=w.heap[k]?
theorem aK.refl(S:afp)(w:aeo):aK S w w:=⟨rfl,rfl,rfl,aP _,fun _ _ _=>rfl⟩
theorem aK.trans{S:afp}{a b c:aeo}(h:aK S a b)(g:aK S b c):aK S a c:=⟨g.os.trans h.os,g.tape.trans h.tape,g.output.trans h.output,cd h.size g.size,fun k aw az=>(g.block k aw (hN az h.size)).trans (h.block k aw az)⟩
variable{S:afp}{w w':aeo}
theorem aK.c4(h:an w w w'):aK S w w':=⟨h.os,h.tape,h.output,h.size,fun k _ az=>h.block k az⟩
theorem aK.mono{R:afp}(h:aK S w w')(hR:∀k,k<w.heap.size→R k→S k):aK R w w':=⟨h.os,h.tape,h.output,h.size,fun k aw az=>h.block k (hR k az aw) az⟩
theorem aK.below(B:Nat)(h:aK S w w')(bz:B≤w.heap.size)(hS:∀k,k<B→S k):Below B w w':=⟨h.os,h.tape,h.output,h.size,fun k aw=>h.block k (hS k aw) (hN aw bz)⟩
theorem aK.get(h:aK S w w'){k:Nat}{o:Obj}(aw:S k)(a1:w.heap[k]?=some o):w'.heap[k]?=some o:=(h.block k aw (Array.getElem?_eq_some_iff.1 a1).1).trans a1
theorem aK.grown{row:Option Nat}(h:w.grownBy w' row)(hr:∀k,row=some k→¬S k):aK S w w':=⟨h.os,h.tape,h.output,h.size,fun k aw az=>h.block k az fun e=>hr k e.symm aw⟩
theorem aK.set{a:Addr}(h:¬S a.block)(u:ada):aK S w (w.setCell a u):=⟨rfl,rfl,rfl,by simp[World.setCell],fun k aw _=>hC _ _ _ _ fun e=>h (e ▸ aw)⟩
theorem aK.alloc(S:afp)(w:aeo)(o:Obj):aK S w (w.alloc o):=.c4 ((Below.refl _ _).alloc (aP _) _)
abbrev jr:Nat:=1000000000
def gV(S:afp)(w:aeo)(p:Ja)(l:List b7):Prop:=l.length≤jr∧(0<l.length→∃(b o:Nat) (cs:ajv),p=some ⟨b,o,none⟩∧S b∧al w b cs de∧∀i (hi:i<l.length),cs[o+i *2]?=some (I l[i].1)∧cs[o+i *2+1]?=some (I l[i].2))
def iS(S:afp)(w:aeo)(p:Ja)(l:List (List b7)):Prop:=l.length≤jr∧(0<l.length→∃(b o:Nat) (cs:ajv),p=some ⟨b,o,none⟩∧S b∧al w b cs e0∧∀i (hi:i<l.length),∃q c,cs[o+i]?=some (.slice q l[i].length c)∧l[i].length≤c∧gV S w q l[i])
abbrev js(b:dK)(gb gv:ada):List Value:=[I b.k,I b.a.1,I b.a.2,I b.b.1,I b.b.2,I b.c.1,I b.c.2,I b.r,gb,gv]
abbrev rj(b:dK)(gb gv:ada):Array Value:= #[I b.k,I b.a.1,I b.a.2,I b.b.1,I b.b.2,I b.c.1,I b.c.2,I b.r,gb,gv]
abbrev jc(b:dK)(gb gv:ada):Value:=.agg (rj b gb gv)
def da(S:afp)(w:aeo):bf→aev→Prop
 |.nil,_=>True
 | .cons a b s r,xs=>(∃(pl:Ja) (cl:Nat) (pp:Ja) (cp:Nat),xs.take 11=U a::js b (ad pl b.l.length cl) (ad pp s.len cp)∧b.l.length≤cl∧s.len≤cp∧iS S w pl b.l∧s.len≤jr∧
  (0<s.len→∃(k o:Nat) (cs:ajv),pp=some ⟨k,o,none⟩∧S k∧al w k cs ev∧da S w s (cs.toList.drop o)))∧da S w r (xs.drop 11)
def hO(S:afp)(w:aeo)(p:Ja)(s:bf):Prop:=s.len≤jr∧(0<s.len→∃(k o:Nat) (cs:ajv),p=some ⟨k,o,none⟩∧S k∧al w k cs ev∧da S w s (cs.toList.drop o))
structure dw(S:afp)(w:aeo)(pl:Ja)(cl:Nat)(pp:Ja)(cp:Nat)(s:dq):Prop where
 l:iS S w pl s.b.l
 p:hO S w pp s.p
 cl:s.b.l.length≤cl
 cp:s.p.len≤cp
theorem gV.nil(S:afp)(w:aeo)(p:Ja):gV S w p []:=⟨cO _,fun h=>absurd h (mi _)⟩
theorem iS.nil(S:afp)(w:aeo)(p:Ja):iS S w p []:=⟨cO _,fun h=>absurd h (mi _)⟩
theorem hO.nil(S:afp)(w:aeo)(p:Ja):hO S w p .nil:=⟨cO _,fun h=>absurd h (mi _)⟩
theorem dw.bare(S:afp)(w:aeo)(p q:Ja)(b:dK)(cl cp:Nat)(ay:b.l=[]):dw S w p cl q cp ⟨b,.nil⟩:=⟨by rw[show (⟨b,.nil⟩:dq).b.l=[] from ay];exact .nil _ _ _,.nil _ _ _,by rw[show (⟨b,.nil⟩:dq).b.l=[] from ay];exact cO _,cO _⟩
theorem lt_of_heap{k:Nat}{o:Obj}(h:w.heap[k]?=some o):k<w.heap.size:=(Array.getElem?_eq_some_iff.1 h).1
variable{a:Bool}{b:dK}{s r:bf}{xs:aev}
theorem da.head(h:da S w (.cons a b s r) xs):
  ∃(pl:Ja) (cl:Nat) (pp:Ja) (cp:Nat),xs.take 11=U a::js b (ad pl b.l.length cl) (ad pp s.len cp)∧dw S w pl cl pp cp ⟨b,s⟩:=by
 obtain⟨⟨pl,cl,pp,cp,au,ax,aA,bb,bj,b8⟩,_⟩:=h;exact⟨pl,cl,pp,cp,au,bb,⟨bj,b8⟩,ax,aA⟩
theorem da.tail(h:da S w (.cons a b s r) xs):da S w r (xs.drop 11):=h.2
theorem da.mk{pl:Ja}{cl:Nat}{pp:Ja}{cp:Nat}(h:xs.take 11=U a::js b (ad pl b.l.length cl) (ad pp s.len cp))(hs:dw S w pl cl pp cp ⟨b,s⟩)(hr:da S w r (xs.drop 11)):da S w (.cons a b s r) xs:=
 ⟨⟨pl,cl,pp,cp,h,hs.cl,hs.cp,hs.l,hs.p.1,hs.p.2⟩,hr⟩
section
variable{S R:afp}{w w':aeo}
variable{p:Ja}{l:List b7}
theorem gV.keep(h:gV S w p l)(aw:aK S w w'):gV S w' p l:=by refine⟨h.1,fun az=>?_⟩;obtain⟨b,o,cs,rfl,bz,aE,aB⟩:=h.2 az;exact⟨b,o,cs,rfl,bz,aw.get bz aE,aB⟩
theorem gV.mono(h:gV S w p l)(aw:∀k,k<w.heap.size→S k→R k):gV R w p l:=by refine⟨h.1,fun az=>?_⟩;obtain⟨b,o,cs,rfl,bz,aE,aB⟩:=h.2 az;exact⟨b,o,cs,rfl,aw _ (lt_of_heap aE) bz,aE,aB⟩
theorem iS.keep{p:Ja}{l:List (List b7)}(h:iS S w p l)(aw:aK S w w'):iS S w' p l:=by refine⟨h.1,fun az=>?_⟩;obtain⟨b,o,cs,rfl,bz,aE,aB⟩:=h.2 az;refine⟨b,o,cs,rfl,bz,aw.get bz aE,fun i hi=>?_⟩;obtain⟨q,c,aG,rb,a1⟩:=aB i hi;exact⟨q,c,aG,rb,a1.keep aw⟩
theorem iS.mono{p:Ja}{l:List (List b7)}(h:iS S w p l)(aw:∀k,k<w.heap.size→S k→R k):iS R w p l:=by refine⟨h.1,fun az=>?_⟩;obtain⟨b,o,cs,rfl,bz,aE,aB⟩:=h.2 az;refine⟨b,o,cs,rfl,aw _ (lt_of_heap aE) bz,aE,fun i hi=>?_⟩;obtain⟨q,c,aG,rb,a1⟩:=aB i hi;exact⟨q,c,aG,rb,a1.mono aw⟩
theorem da.keep(aw:aK S w w'):∀{s:bf} {xs:aev},da S w s xs→da S w' s xs
 |.nil,_,_=>trivial
 |.cons a b s r,xs,h=>by obtain⟨⟨pl,cl,pp,cp,au,ax,aA,bb,cY,bj⟩,b8⟩:=h;refine⟨⟨pl,cl,pp,cp,au,ax,aA,bb.keep aw,cY,fun az=>?_⟩,da.keep aw b8⟩;obtain⟨k,o,cs,e,hS,aE,hp⟩:=bj az;exact⟨k,o,cs,e,hS,aw.get hS aE,da.keep aw hp⟩
theorem da.mono(aw:∀k,k<w.heap.size→S k→R k):∀{s:bf} {xs:aev},da S w s xs→da R w s xs
 |.nil,_,_=>trivial
 |.cons a b s r,xs,h=>by obtain⟨⟨pl,cl,pp,cp,au,ax,aA,bb,cY,bj⟩,b8⟩:=h;refine⟨⟨pl,cl,pp,cp,au,ax,aA,bb.mono aw,cY,fun az=>?_⟩,da.mono aw b8⟩;obtain⟨k,o,cs,e,hS,aE,hp⟩:=bj az;exact⟨k,o,cs,e,aw _ (lt_of_heap aE) hS,aE,da.mono aw hp⟩
theorem hO.keep{p:Ja}{s:bf}(h:hO S w p s)(aw:aK S w w'):hO S w' p s:=by refine⟨h.1,fun az=>?_⟩;obtain⟨k,o,cs,e,hS,aE,hp⟩:=h.2 az;exact⟨k,o,cs,e,hS,aw.get hS aE,da.keep aw hp⟩
theorem hO.mono{p:Ja}{s:bf}(h:hO S w p s)(aw:∀k,k<w.heap.size→S k→R k):hO R w p s:=by refine⟨h.1,fun az=>?_⟩;obtain⟨k,o,cs,e,hS,aE,hp⟩:=h.2 az;exact⟨k,o,cs,e,aw _ (lt_of_heap aE) hS,aE,da.mono aw hp⟩
theorem dw.keep{pl pp:Ja}{cl cp:Nat}{s:dq}(h:dw S w pl cl pp cp s)(aw:aK S w w'):dw S w' pl cl pp cp s:=⟨h.l.keep aw,h.p.keep aw,h.cl,h.cp⟩
theorem dw.mono{pl pp:Ja}{cl cp:Nat}{s:dq}(h:dw S w pl cl pp cp s)(aw:∀k,k<w.heap.size→S k→R k):dw R w pl cl pp cp s:=⟨h.l.mono aw,h.p.mono aw,h.cl,h.cp⟩
theorem dw.below{pl pp:Ja}{cl cp:Nat}{s:dq}(h:dw S w pl cl pp cp s)(ay:an w w w'):dw S w' pl cl pp cp s:=h.keep (.c4 ay)
theorem iS.below{l:List (List b7)}(h:iS S w p l)(ay:an w w w'):iS S w' p l:=h.keep (.c4 ay)
theorem gV.below(h:gV S w p l)(ay:an w w w'):gV S w' p l:=h.keep (.c4 ay)
theorem hO.below{s:bf}(h:hO S w p s)(ay:an w w w'):hO S w' p s:=h.keep (.c4 ay)
theorem da.below{s:bf}{xs:aev}(h:da S w s xs)(ay:an w w w'):da S w' s xs:=h.keep (.c4 ay)
theorem dw.lt{pl pp:Ja}{cl cp:Nat}{s:dq}(h:dw S w pl cl pp cp s):dw (fun k=>S k∧k<w.heap.size) w pl cl pp cp s:=h.mono fun _ au ax=>⟨ax,au⟩
end
theorem da.append{S:afp}{w:aeo}:∀{s:bf} {xs ys:aev} {t:bf},da S w s xs→xs.length=s.len *11→da S w t ys→da S w (s.append t) (xs++ys)
 |.nil,xs,ys,t,_,az,h=>by obtain rfl:xs=[]:=lP (by simpa[bf.len] using az);exact h
 |.cons a b s r,xs,ys,t,h,az,g=>by obtain⟨⟨pl,cl,pp,cp,au,ax⟩,b8⟩:=h;have ux:11≤xs.length:=(by rw[az];simp only[bf.len];omega);refine⟨⟨pl,cl,pp,cp,by rw[XE ux];exact au,ax⟩,?_⟩;rw[XF ux];exact da.append b8 (by simp only[e8,az,bf.len];omega) g
theorem X0{cs:ajv}{n:Nat}{v0 v1 v2 v3 v4 v5 v6 bS b0 v9 v10:ada}(h:(cs.toList.drop n).take 11=[v0,v1,v2,v3,v4,v5,v6,bS,b0,v9,v10]):
  cs[n]?=some v0∧cs[n+1]?=some v1∧cs[n+2]?=some v2∧cs[n+3]?=some v3∧cs[n+4]?=some v4∧cs[n+5]?=some v5∧cs[n+6]?=some v6∧cs[n+7]?=some bS∧cs[n+8]?=some b0∧cs[n+9]?=some v9∧cs[n+10]?=some v10:=by
 have key:∀j,j<11→cs[n+j]?=[v0,v1,v2,v3,v4,v5,v6,bS,b0,v9,v10][j]?:=by intro j b6;rw[←h,ra,aW b6,z'];simp
 exact⟨key 0 (by decide),key 1 (by decide),key 2 (by decide),key 3 (by decide),key 4 (by decide),key 5 (by decide),key 6 (by decide),key 7 (by decide),key 8 (by decide),key 9 (by decide),key 10 (by decide)⟩
end c1
namespace c1
open Go.RowKit ef
abbrev Gn(p:b7):Value:=.agg #[I p.1,I p.2]
abbrev j7(p:b7):Obj:=.cells #[I p.1,I p.2] de
theorem h1{a b:Bool}(h:a=b):Ending.returned (U a)=ab (U b):=by rw[h]
def Ny(k:Int)(a b c:b7)(r:Int)(nl eA:Nat):Bool:=
 if (k≠2∧0<nl)∨(k≠6∧0<eA) then false
 else if k=1 then decide (b=z2)&&decide (c=z2)
 else if k=3∨k=4 then decide (c=z2)
 else if k=2∨k=6 then decide (a=z2)&&(decide (b=z2)&&(decide (c=z2)&&decide (r=0)))
 else true
theorem uy(p:b7)(w:aeo):Calls Tryz.prog 202 #[Gn p] w fun e w'=>e=ab (U (gU p))∧w.alloc (j7 p)=w':=by
 obtain⟨x,y⟩:=p;go_enter Gi,Gj;go_wp2_with fail
 all_goals
  go_ret;refine⟨h1 (Bool.eq_iff_iff.2 ⟨fun h=>?_,fun h=>?_⟩),rfl⟩<;>simp only[gU,qv,p0,Ru] at h⊢<;>omega
theorem DQ(r:Int)(w:aeo):Calls Tryz.prog 203 #[I r] w fun e w'=>e=ab (U (yE r))∧w=w':=by
 go_enter Nj,Nk;go_wp2_with fail
 all_goals
  go_ret;refine⟨h1 (Bool.eq_iff_iff.2 ⟨fun h=>?_,fun h=>?_⟩),rfl⟩<;>simp only[yE,qv,p0,Ru] at h⊢<;>omega
theorem aht(k a7 a' aX a8 cx bA r:Int)(pl pp:Ja)(nl eA cl cp:Nat)(w:aeo):
  Calls Tryz.prog 201 #[.agg #[I k,I a7,I a',I aX,I a8,I cx,I bA,I r,ad pl nl cl,ad pp eA cp]] w fun e w'=>e=ab (U (Ny k (a7,a') (aX,a8) (cx,bA) r nl eA))∧an w w w':=by
 go_enter Tryz.func201,Tryz.ntmps201;go_wp2_with fail
 all_goals
  go_ret;refine⟨h1 ?_,((Below.refl _ _).alloc (aP _) _).alloc (by simp) _⟩;first|(simp[Ny,z2, *];done)|grind [Ny,z2]
end c1
