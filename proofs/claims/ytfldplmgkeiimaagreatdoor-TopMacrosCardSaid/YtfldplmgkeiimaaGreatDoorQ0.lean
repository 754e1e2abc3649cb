/- Lemmas. -/
import Derived.Lib.ItoaLen
import Derived.Lib.TrimByte
import Derived.Deep.DeepFit
set_option linter.all false
namespace Go.Proofs.YtfldplmgkeiimaaGreatDoor
abbrev yS:=@Bool.eq_false_iff
abbrev Re:=@List.takeWhile_cons
abbrev a8:=@if_pos
abbrev aR:=@if_neg
abbrev BU:=@Nat.pow_succ
abbrev nW:=@List.foldl_cons
abbrev eP:=@List.length_cons
abbrev vD:=@List.take_length
abbrev xd:=@Classical.byContradiction
abbrev lT:=@List.drop_eq_getElem_cons
abbrev oH:=@List.map_cons
abbrev Jt:=@List.map_map
abbrev Ng:=@List.map_congr_left
abbrev Rf:=@Lib.lt_pow_nDigits
abbrev vE:=@Nat.pow_le_pow_right
abbrev Ju:=@Nat.pow_pos
abbrev Rg:=@Lib.nDigits_pos
abbrev yT:=@List.length_reverse
abbrev DK:=@Nat.zero_mul
abbrev kr:=@Nat.zero_add
abbrev Rh:=@Nat.mul_assoc
abbrev Ri:=@Nat.mul_comm
abbrev xe:=@Nat.add_assoc
abbrev DL:=@Nat.add_comm
abbrev Jv:=@List.cons_append
abbrev bx:=@Nat.le_refl
abbrev gI:=@List.length_drop
abbrev dB:=@Nat.le_trans
abbrev hl:=@List.length_append
abbrev rC:=@List.length_nil
abbrev nX:=@Nat.le_succ
abbrev mi:=@Option.some.injEq
abbrev Gs:=@Nat.eq_zero_or_pos
abbrev Rj:=@List.mem_singleton
abbrev ix:=@Bool.and_eq_true
abbrev iO:=@decide_eq_true_eq
abbrev xf:=@bne_iff_ne
abbrev Jw:=@List.nil_append
structure IT where
instance:CoeFun IT fun _=>Int→Value:=⟨fun _=>.int .i64⟩
def I:IT:=⟨⟩
structure JT where
instance:CoeFun JT fun _=>Nat→Value:=⟨fun _=>.slice none 0⟩
def J:JT:=⟨⟩
structure UT where
instance:CoeFun UT fun _=>Bool→Value:=⟨fun _=>.bool⟩
def U:UT:=⟨⟩
structure aaT where
instance:CoeFun aaT fun _=>ByteArray→Value:=⟨fun _=>.string⟩
def aa:aaT:=⟨⟩
structure abT where
instance:CoeFun abT fun _=>Value→Ending:=⟨fun _=>.returned⟩
def ab:abT:=⟨⟩
structure adT where
instance:CoeFun adT fun _=>Option Addr→Nat→Nat→Value:=⟨fun _=>.slice⟩
def ad:adT:=⟨⟩
structure aeT where
instance:CoeFun aeT fun _=>Int→Int:=⟨fun _=>IntKind.i64.wrap⟩
def ae:aeT:=⟨⟩
structure afT where
instance:CoeFun afT fun _=>Prop→Prop:=⟨fun _=>RowKit.Hid⟩
def af:afT:=⟨⟩
structure agT(b o n c:Nat) where
def ag(b o n c:Nat):agT b o n c:=⟨⟩
instance(b o n c:Nat):CoeOut (agT b o n c) Value:=⟨fun _=>.slice (some ⟨b,o,none⟩) n c⟩
structure ahT(b o:Nat) where
def ah(b o:Nat):ahT b o:=⟨⟩
instance(b o:Nat):CoeOut (ahT b o) Value:=⟨fun _=>.pointer (some ⟨b,o,none⟩)⟩
structure aiT(x:Array Value)(t:TypeId) where
def ai(x:Array Value)(t:TypeId):aiT x t:=⟨⟩
instance(x:Array Value)(t:TypeId):CoeOut (aiT x t) Obj:=⟨fun _=>.cells x t⟩
structure ajT(b o:Nat) where
def aj(b o:Nat):ajT b o:=⟨⟩
instance(b o:Nat):CoeOut (ajT b o) Addr:=⟨fun _=>⟨b,o,none⟩⟩
structure akT(w:World)(b o:Nat)(v:Value) where
def ak(w:World)(b o:Nat)(v:Value):akT w b o v:=⟨⟩
instance(w:World)(b o:Nat)(v:Value):CoeOut (akT w b o v) Prop:=⟨fun _=>w.cell? ⟨b,o,none⟩=some v⟩
instance(w:World)(b o:Nat)(v:Value):CoeSort (akT w b o v) Prop:=⟨fun _=>w.cell? ⟨b,o,none⟩=some v⟩
structure anT(w:World)(b:Nat)(x:Array Value)(t:TypeId) where
def an(w:World)(b:Nat)(x:Array Value)(t:TypeId):anT w b x t:=⟨⟩
instance(w:World)(b:Nat)(x:Array Value)(t:TypeId):CoeOut (anT w b x t) Prop:=⟨fun _=>w.heap[b]?=some (.cells x t)⟩
instance(w:World)(b:Nat)(x:Array Value)(t:TypeId):CoeSort (anT w b x t) Prop:=⟨fun _=>w.heap[b]?=some (.cells x t)⟩
structure aoT(w x y:World) where
def ao(w x y:World):aoT w x y:=⟨⟩
instance(w x y:World):CoeOut (aoT w x y) Prop:=⟨fun _=>RowKit.Below w.heap.size x y⟩
instance(w x y:World):CoeSort (aoT w x y) Prop:=⟨fun _=>RowKit.Below w.heap.size x y⟩
theorem aq{p:Prop}(h:p):RowKit.Hid p:=h
theorem ar{A:Sort _}(a:A):∃x,a=x:=⟨a,rfl⟩
structure auT where
instance:CoeSort auT Type:=⟨fun _=>List UInt8⟩
def au:auT:=⟨⟩
structure aeJx where
instance:CoeSort aeJx Type:=⟨fun _=>List Value⟩
def aev:aeJx:=⟨⟩
structure ajJx where
instance:CoeSort ajJx Type:=⟨fun _=>Array Value⟩
def ajv:ajJx:=⟨⟩
structure JBV where
instance:CoeSort JBV Type:=⟨fun _=>Option Addr⟩
def Ja:JBV:=⟨⟩
structure afXp where
instance:CoeSort afXp Type:=⟨fun _=>Nat→Prop⟩
def afp:afXp:=⟨⟩
structure aeXq where
instance:CoeSort aeXq Type:=⟨fun _=>World⟩
def aeo:aeXq:=⟨⟩
structure adBV where
instance:CoeSort adBV Type:=⟨fun _=>Value⟩
def ada:adBV:=⟨⟩
structure UBV where
instance:CoeSort UBV Type:=⟨fun _=>ByteArray⟩
def Ua:UBV:=⟨⟩
structure aaXr where
instance:CoeSort aaXr Type:=⟨fun _=>TypeId⟩
def aai:aaXr:=⟨⟩
namespace j6
def e2(c:UInt8):Bool:=decide (48≤c.toNat)&&decide (c.toNat≤57)
def bA(l:au):Nat:=(l.takeWhile e2).length
def val(l:au):Nat:=l.foldl (fun v c=>v *10+(c.toNat-48)) 0
theorem qU(c:UInt8):e2 c=true↔48≤c.toNat∧c.toNat≤57:=by simp[e2]
theorem Jy(c:UInt8):e2 c=false↔c.toNat<48∨57<c.toNat:=by rw[yS,Ne,qU];omega
theorem ah8:val []=0:=rfl
theorem Nh(l:au)(c:UInt8):val (l++[c])=val l *10+(c.toNat-48):=by simp[val]
theorem ah9:bA []=0:=rfl
theorem Jz(c:UInt8)(l:au):bA (c::l)=if e2 c then bA l+1 else 0:=by unfold bA;rw[Re];split<;>simp
theorem rD(l:au):bA l≤l.length:=by
 unfold bA;induction l with
 |nil=>simp
 |cons c l cT=>rw[Re];split<;>simp;omega
theorem yU(l:au):(∀k (h:k<l.length),k<bA l→e2 l[k]=true)∧(∀h:bA l<l.length,e2 l[bA l]=false):=by
 induction l with
 |nil=>simp[bA]
 |cons c l cT=>
  rw[Jz];by_cases hc:e2 c=true
  ·rw[a8 hc];refine⟨fun k h ax=>?_,fun h=>?_⟩
   ·cases k with
    |zero=>simpa using hc
    |succ k=>simpa using cT.1 k (by simpa using h) (by omega)
   ·simpa using cT.2 (by simpa using h)
  ·rw[aR hc];exact⟨fun k h ax=>by omega,fun h=>by simpa using hc⟩
variable{l r:au}{k:Nat}
theorem Ni(ax:k≤bA l)(h:k<l.length)(hd:e2 l[k]=true):k<bA l:=by
 rcases Nat.lt_or_eq_of_le ax with av|av
 ·exact av
 ·subst av;have:=(yU l).2 h;rw[this] at hd;cases hd
theorem JA(ax:k≤bA l)(h:k<l.length)(hd:e2 l[k]=false):bA l=k:=by
 rcases Nat.lt_or_eq_of_le ax with av|av
 ·have:=(yU l).1 k h av;rw[this] at hd;cases hd
 ·exact av.symm
theorem aia(l:au)(h:∀c∈l,e2 c=true):val l<10^l.length:=by
 have key:∀(l:au) (v n:Nat),v<10^n→(∀c∈l,e2 c=true)→l.foldl (fun v c=>v *10+(c.toNat-48)) v<10 ^(n+l.length):=by
  intro l
  induction l with
  |nil=>intro v n aS _;simpa using aS
  |cons c l cT=>
   intro v n aS aA;have hc:=(qU c).1 (aA c (by simp));have:=cT (v *10+(c.toNat-48)) (n+1) (by rw[BU];omega) (fun d hd=>aA d (by simp[hd]));simp only[nW,eP];rw[show n+(l.length+1)=n+1+l.length by omega];exact this
 have:=key l 0 0 (by simp) h;simpa[val] using this
theorem aib(l:au)(k:Nat)(ax:k≤bA l):∀c∈l.take k,e2 c=true:=by
 intro c hc;obtain⟨i,hi,rfl⟩:=List.mem_iff_getElem.1 hc;have JB:i<k∧i<l.length:=by have:=hi;simp at this;omega
 simpa using (yU l).1 i JB.2 (by omega)
theorem DM(l:au)(k:Nat)(ax:k≤bA l):val (l.take k)<10^k:=by
 have h:=aia _ (aib l k ax);have aA:=rD l;have:(l.take k).length=k:=by simp;omega
 rwa [this] at h
def strip:au→Bool×List UInt8
 |[]=>(false,[])
 |c::r=>if c.toNat=43 then (false,r) else if c.toNat=45 then (true,r) else (false,c::r)
def xg(l:au):Option Nat:=
 match l.drop (bA l) with
 |[]=>if bA l≤6∧bA l≠0 then some (val l *1000000) else none
 |c::t=>if c.toNat=46∧bA l≤6∧bA t≤6∧bA t=t.length∧bA l+bA t≠0 then some (val (l.take (bA l)) *1000000+val t *10 ^(6-bA t)) else none
def dec(l:au):Option Int:=(xg (strip l).2).map fun n=>if (strip l).1 then -(n:Int) else n
theorem Xs(ax:k=min 6 (bA l))(h:l.drop k=[]):bA l=k∧k=l.length:=by have av:=rD l;have az:l.length≤k:=List.drop_eq_nil_iff.1 h;omega
theorem aic(ax:k=min 6 (bA l))(h:l.drop k=[]):xg l=if k=0 then none else some (val (l.take k) *1000000):=by
 obtain⟨av,az⟩:=Xs ax h;unfold xg;rw[av,h];have aF:l.take k=l:=by rw[az];exact vD
 rw[aF];by_cases aT:k=0
 ·simp[aT]
 ·have:k≤6:=(by omega);simp[aT,this]
variable{c:UInt8}
theorem aid(ax:k=min 6 (bA l))(h:l.drop k=c::r)(hc:e2 c=false):bA l=k:=by
 have aA:k<l.length:=by apply xd;intro hn;rw[List.drop_eq_nil_iff.2 (by omega)] at h;cases h
 have qV:l[k]=c:=by have:=lT aA;rw[h] at this;injection this with a b;exact a.symm
 exact JA (by omega) aA (by rw[qV];exact hc)
theorem aie(ax:k=min 6 (bA l))(h:l.drop k=c::r)(hc:¬c.toNat=46):xg l=none:=by
 unfold xg;by_cases cW:bA l≤6
 ·have:bA l=k:=(by omega);rw[this,h];simp[hc]
 ·split
  ·simp[cW]
  ·simp[cW]
theorem aif{m:Nat}(ax:k=min 6 (bA l))(h:l.drop k=c::r)(hc:c.toNat=46)(hm:m=min 6 (bA r)):
  xg l=if r.drop m=[]∧¬k+m=0 then some (val (l.take k) *1000000+val (r.take m) *10 ^(6-m)) else none:=by
 have hn:=aid ax h ((Jy c).2 (by omega));unfold xg;rw[hn,h];simp only;by_cases av:r.drop m=[]
 ·obtain⟨a1,a6⟩:=Xs hm av;have ch:r.take m=r:=(by rw[a6];exact vD);rw[ch,a1];by_cases az:k+m=0
  ·simp[az]
  ·rw[a8 ⟨hc,by omega,by omega,a6,az⟩,a8 ⟨av,az⟩]
 ·rw[aR (by rintro⟨_,_,aF,bk,_⟩;apply av;apply List.drop_eq_nil_iff.2;omega),aR (by rintro⟨aF,_⟩;exact av aF)]
def sL(n:Int):Bool:=decide (-1000000000000<n)&&decide (n<1000000000000)
theorem aih(n:Int):sL n=true↔-1000000000000<n∧n<1000000000000:=by simp[sL]
end j6
namespace j6
open Go.Lib (dg nDigits decDigits trimRightB)
def pad(n k:Nat):List UInt8:=(List.range k).map fun t=>dg n (k-1-t)
theorem aii(n:Nat):pad n 0=[]:=rfl
theorem Xt(n k:Nat):pad n (k+1)=dg n k::pad n k:=by
 unfold pad;rw[List.range_succ_eq_map,oH,Jt]
 congr 1
 apply Ng;intro t bB;simp only[Function.comp,Nat.succ_eq_add_one]
 congr 1;omega
theorem Rk(n k:Nat):(pad n k).length=k:=by simp[pad]
theorem Rl(n:Nat):decDigits n=pad n (nDigits n):=Lib.decDigits_eq n
theorem Xu(n j:Nat):dg n j=UInt8.ofNat (48+n/10^j%10):=rfl
theorem Xv(n j:Nat):(dg n j).toNat=48+n/10^j%10:=by rw[Xu,UInt8.toNat_ofNat'];omega
theorem aij(n j:Nat):e2 (dg n j)=true:=by rw[qU,Xv];omega
def uc(n:Nat):Nat:=if n=0 then 0 else nDigits n
theorem aik(n:Nat):n<10^uc n:=by
 unfold uc;split
 ·subst_vars;simp
 ·exact Rf n
theorem Rm:∀(k n:Nat),n<10^k→1≤k→nDigits n≤k
 |0,_,_,h=>by omega
 |k+1,n,h,_=>by
  by_cases Ab:n<10
  ·rw[Lib.nDigits_small Ab];omega
  ·rw[Lib.nDigits_big Ab];have ax:1≤k:=(by apply xd;intro hn;obtain rfl:k=0:=(by omega);simp at h;omega);have:=Rm k (n/10) (by rw[BU] at h;omega) ax;omega
theorem ail{n k:Nat}(h:0<n/10^k):k<uc n:=by apply xd;intro hn;have av:=aik n;have az:10^uc n≤10^k:=vE (by decide) (by omega);rw[Nat.div_eq_of_lt (by omega)] at h;cases h
theorem aim{n k:Nat}(h:n/10^k=0):uc n≤k:=by
 unfold uc;split
 ·omega
 ·rename_i aT
  have b1:n<10^k:=by
   rcases Nat.div_eq_zero_iff.1 h with h|h
   ·have:=Ju (n:=k) (show 0<10 by decide);omega
   ·exact h
  apply Rm k n b1;apply xd;intro hn;obtain rfl:k=0:=(by omega);simp at b1;omega
def Gt(n least:Nat):List UInt8:=pad n (max least (uc n))
theorem Rn(n:Nat):Gt n 1=decDigits n:=by
 rw[Rl];unfold Gt uc;split
 ·subst_vars;rw[Lib.nDigits_small (by omega)];rfl
 ·have:=Rg n;rw[show max 1 (nDigits n)=nDigits n by omega]
theorem ain(l:au)(c:UInt8):(trimRightB l c).length≤l.length:=by unfold trimRightB;rw[yT];have:=(List.dropWhile_suffix (l:=l.reverse) (· ==c)).length_le;simpa using this
theorem aio(l:au):∀v,l.foldl (fun v c=>v *10+(c.toNat-48)) v=v *10^l.length+val l:=by
 induction l with
 |nil=>intro v;simp[val]
 |cons c l cT=>
  intro v;unfold val;simp only[nW,eP];rw[cT,cT (0 *10+(c.toNat-48)),BU,Nat.add_mul,DK,kr,Rh,Ri 10,xe]
theorem aip(c:UInt8)(l:au):val (c::l)=(c.toNat-48) *10^l.length+val l:=by have:=aio l (0 *10+(c.toNat-48));rw[DK,kr] at this;unfold val;rw[nW,DK,kr,this];rfl
theorem Xw(n:Nat):∀k,val (pad n k)=n%10^k
 |0=>by simp[aii,ah8,Nat.mod_one]
 |k+1=>by rw[Xt,aip,Xw n k,Xv,Rk,BU,Nat.mod_mul];rw[show 48+n/10^k%10-48=n/10^k%10 by omega,Ri,DL]
theorem aiq(n k:Nat):∀c∈pad n k,e2 c=true:=by intro c hc;obtain⟨t,_,rfl⟩:=List.mem_map.1 hc;exact aij _ _
theorem Xx(D:au)(h:∀c∈D,e2 c=true)(r:au):bA (D++r)=D.length+bA r:=by
 induction D with
 |nil=>simp
 |cons c D cT=>
  rw[Jv,Jz,a8 (h c (by simp)),cT (fun d hd=>h d (by simp[hd])),eP];omega
theorem air(t:au):bA (46::t)=0:=by rw[Jz];rfl
end j6
namespace vF
open j6
structure dF where
 r:List UInt8
 ops:List (Int×Int)
 e:Nat
def hd(r:au):UInt8:=r.headD 0
def put(st:dF)(k n:Int):dF:=if st.e=0 then⟨st.r,st.ops++[(k,n)],0⟩ else st
def rE(D:au):Nat:=D.foldl (fun n c=>min (10 *n+(c.toNat-48)) 100) 0
def kY(st:dF):dF:=
 if rE ((st.r.drop 1).take (bA (st.r.drop 1)))<1∨99<rE ((st.r.drop 1).take (bA (st.r.drop 1)))∨hd (st.r.drop 1)=48 then⟨st.r,st.ops,3⟩
 else⟨(st.r.drop 1).drop (bA (st.r.drop 1)),st.ops++[(2,(rE ((st.r.drop 1).take (bA (st.r.drop 1))):Int))],0⟩
def nY(r:au):Nat:=if hd (r.drop (bA r))=46 then bA r+1+bA (r.drop (bA r+1)) else bA r
def lp(st:dF):dF:=
 match dec (st.r.take (nY st.r)) with
 |none=>⟨st.r,st.ops,3⟩
 |some n=>⟨st.r.drop (nY st.r),st.ops++[(1,n)],0⟩
def xh(c:UInt8):Bool:=c==43 || c==45 || c==40
def qW(st:dF):dF:=if hd st.r=36 then kY st else if (hd st.r==46 || e2 (hd st.r))=true then lp st else⟨st.r,st.ops,3⟩
def jk(c:UInt8):Option Nat:=if c=120∨c=88 then some 5 else if c=47 then some 6 else none
def DN(c:UInt8):Option Nat:=if c=43 then some 3 else if c=45 then some 4 else none
def sM(op:UInt8→Option Nat)(f:dF→dF):Nat→dF→dF
 |0,st=>st
 |k+1,st=>if st.e=0 then (match op (hd st.r) with|none=>st|some q=>sM op f k (put (f ⟨st.r.drop 1,st.ops,0⟩) q 0)) else st
def rF(f:dF→dF)(st:dF):dF:=sM jk f (st.r.length+1) (f st)
def vG(f:dF→dF)(st:dF):dF:=sM DN (rF f) (st.r.length+1) (rF f st)
def ud(st:dF):dF:=if st.e=0 then (if hd st.r=41 then⟨st.r.drop 1,st.ops,0⟩ else⟨st.r,st.ops,3⟩) else st
def rG(f:dF→dF)(c:UInt8)(st:dF):dF:=
 if c=40 then ud (vG f st) else if c=45 then put (f st) 7 0 else f st
def fq:Nat→dF→dF
 |0,st=>if xh (hd st.r)=true then⟨st.r,st.ops,6⟩ else qW st
 |d+1,st=>if xh (hd st.r)=true then rG (fq d) (hd st.r) ⟨st.r.drop 1,st.ops,st.e⟩ else qW st
def sN(st:dF):Nat:=if st.e=0 then (if st.r=[] then 0 else 3) else st.e
def yV(s:au):dF:=vG (fq 30) ⟨s,[],0⟩
def vH(s:au):List (Int×Int)× Nat×Nat:=
 if 300<s.length then ([],0,6) else if sN (yV s)=0 then ((yV s).ops,0,0) else ([],s.length -(yV s).r.length,sN (yV s))
theorem vI(st:dF)(k n:Int):(put st k n).r=st.r:=by unfold put;split<;>rfl
theorem ais(st:dF):(kY st).r.length≤st.r.length:=by
 unfold kY;split
 ·exact bx _
 ·simp only[gI];omega
theorem ait(st:dF):(lp st).r.length≤st.r.length:=by
 unfold lp;split
 ·exact bx _
 ·simp
theorem Xy(st:dF):(qW st).r.length≤st.r.length:=by
 unfold qW;split
 ·exact ais st
 ·split
  ·exact ait st
  ·exact bx _
def Down(f:dF→dF):Prop:=∀st,(f st).r.length≤st.r.length
theorem Ro{op:UInt8→Option Nat}{f:dF→dF}(hf:Down f):∀k st,(sM op f k st).r.length≤st.r.length
 |0,st=>bx _
 |k+1,st=>by
  rw[sM];split
  ·split
   ·exact bx _
   ·rename_i q _;have av:=Ro (op:=op) hf k (put (f ⟨st.r.drop 1,st.ops,0⟩) q 0);rw[vI] at av;have az:=hf ⟨st.r.drop 1,st.ops,0⟩;simp only[gI] at az;omega
  ·exact bx _
variable{f:dF→dF}
theorem JC(hf:Down f):Down (rF f):=fun st=>dB (Ro hf _ _) (hf st)
theorem aiu(hf:Down f):Down (vG f):=fun st=>dB (Ro (JC hf) _ _) (JC hf st)
theorem aiv(st:dF):(ud st).r.length≤st.r.length:=by
 unfold ud;split
 ·split
  ·simp
  ·exact bx _
 ·exact bx _
theorem aiw(hf:Down f)(c:UInt8):Down (rG f c):=fun st=>by
 unfold rG;split
 ·exact dB (aiv _) (aiu hf st)
 ·split
  ·rw[vI];exact hf st
  ·exact hf st
theorem BW:∀d,Down (fq d)
 |0,st=>by
  rw[fq];split
  ·exact bx _
  ·exact Xy st
 |d+1,st=>by
  rw[fq];split
  ·have:=aiw (BW d) (hd st.r) ⟨st.r.drop 1,st.ops,st.e⟩;simp only[gI] at this;omega
  ·exact Xy st
variable{st:dF}
theorem aix{op:UInt8→Option Nat}(k:Nat)(h:st.e=0→op (hd st.r)=none):sM op f k st=st:=by
 cases k with
 |zero=>rfl
 |succ k=>
  rw[sM];split
  ·rename_i he;rw[h he]
  ·rfl
theorem aiy{op:UInt8→Option Nat}(k:Nat){q:Nat}(he:st.e=0)(h:op (hd st.r)=some q):sM op f (k+1) st=sM op f k (put (f ⟨st.r.drop 1,st.ops,0⟩) q 0):=by rw[sM,a8 he,h]
theorem Xz{op:UInt8→Option Nat}(aT:op 0=none){r:au}{q:Nat}(h:op (hd r)=some q):r≠[]:=by rintro rfl;rw[show hd []=0 from rfl,aT] at h;cases h
inductive T where
 |num (n:Nat)
 |var (n:Nat)
 |neg (t:T)
 |bin (k:Nat) (a b:T)
def NumLit(u:au):Prop:=u≠[]∧((∀c∈u,e2 c=true)∨∃D F,u=D++46::F∧(∀c∈D,e2 c=true)∧∀c∈F,e2 c=true)
inductive G:Nat→Nat→au→T→Prop where
 |num {d:Nat} {u:au} {n:Nat}:NumLit u→dec u=some (n:Int)→G 0 d u (.num n)
 |var {d:Nat} {u:au} {n:Nat}:(∀c∈u,e2 c=true)→rE u=n→1≤n→n≤99→hd u≠48→G 0 d (36::u) (.var n)
 |plus {d:Nat} {u:au} {t:T}:G 0 d u t→G 0 (d+1) (43::u) t
 |neg {d:Nat} {u:au} {t:T}:G 0 d u t→G 0 (d+1) (45::u) (.neg t)
 |par {d:Nat} {u:au} {t:T}:G 2 d u t→G 0 (d+1) (40::(u++[41])) t
 |awB {d:Nat} {u:au} {t:T}:G 0 d u t→G 1 d u t
 |pop {d:Nat} {u v:au} {c:UInt8} {k:Nat} {a b:T}:G 1 d u a→G 0 d v b→jk c=some k→G 1 d (u++c::v) (.bin k a b)
 |awC {d:Nat} {u:au} {t:T}:G 1 d u t→G 2 d u t
 |awD {d:Nat} {u v:au} {c:UInt8} {k:Nat} {a b:T}:G 2 d u a→G 1 d v b→DN c=some k→G 2 d (u++c::v) (.bin k a b)
end vF
namespace vF
open j6
open Go.Lib (decDigits nDigits)
variable{r:au}
theorem aiz(h:hd r=46∨e2 (hd r)=true):0<nY r:=by
 unfold nY;cases r with
 |nil=>rcases h with h|h<;>(revert h;decide)
 |cons c r=>
  by_cases hQ:e2 c=true
  ·have:0<bA (c::r):=(by rw[Jz,a8 hQ];omega);split<;>omega
  ·have kZ:c=46:=by
    rcases h with h|h
    ·exact h
    ·exact absurd h hQ
   subst kZ;have:bA (46::r)=0:=air r;rw[this];rw[a8 (show hd (List.drop 0 (46::r))=46 from rfl)];omega
theorem Rp{c:UInt8}(h:xh c=true):c=43∨c=45∨c=40:=by
 unfold xh at h;simp at h;rcases h with (h|h)|h
 ·exact .inl h
 ·exact .inr (.inl h)
 ·exact .inr (.inr h)
def BX(f:dF→dF):Prop:=∀st,(f st).ops.length+(f st).r.length≤st.ops.length+st.r.length
theorem Rq(st:dF)(k n:Int):(put st k n).ops.length≤st.ops.length+1:=by
 unfold put;split
 ·simp
 ·omega
theorem XA(st:dF):(qW st).ops.length+(qW st).r.length≤st.ops.length+st.r.length:=by
 unfold qW;split
 ·rename_i pU;have hne:st.r≠[]:=(by intro e;rw[e] at pU;exact absurd pU (by decide));have hp:=List.length_pos_iff.2 hne;unfold kY;split
  ·exact bx _
  ·simp only[hl,eP,rC,gI];omega
 ·split
  ·rename_i hn;have Rr:hd st.r=46∨e2 (hd st.r)=true:=(by simpa using hn);have hp:=aiz Rr;have hne:st.r≠[]:=by intro e;rw[e] at Rr;rcases Rr with h|h<;>exact absurd h (by decide)
   have aA:=List.length_pos_iff.2 hne;unfold lp;split
   ·exact bx _
   ·simp only[hl,eP,rC,gI];omega
  ·exact bx _
theorem Rs{op:UInt8→Option Nat}(aT:op 0=none){f:dF→dF}(hf:BX f):∀k st,(sM op f k st).ops.length+(sM op f k st).r.length≤st.ops.length+st.r.length
 |0,st=>bx _
 |k+1,st=>by
  rw[sM];split
  ·split
   ·exact bx _
   ·rename_i q aH;have hp:=List.length_pos_iff.2 (Xz aT aH);have av:=Rs aT hf k (put (f ⟨st.r.drop 1,st.ops,0⟩) q 0);have az:=Rq (f ⟨st.r.drop 1,st.ops,0⟩) q 0;have aF:=hf ⟨st.r.drop 1,st.ops,0⟩;rw[vI] at av;simp only[gI] at aF;omega
  ·exact bx _
variable{f:dF→dF}
theorem DO(hf:BX f):BX (rF f):=fun st=>dB (Rs rfl hf _ _) (hf st)
theorem aiA(hf:BX f):BX (vG f):=fun st=>dB (Rs rfl (DO hf) _ _) (DO hf st)
theorem aiB(st:dF):(ud st).ops.length+(ud st).r.length≤st.ops.length+st.r.length:=by
 unfold ud;split
 ·split
  ·simp only[gI];omega
  ·exact bx _
 ·exact bx _
theorem aiC(hf:BX f)(c:UInt8)(st:dF):(rG f c st).ops.length+(rG f c st).r.length≤st.ops.length+st.r.length+1:=by
 unfold rG;split
 ·exact dB (dB (aiB _) (aiA hf st)) (nX _)
 ·split
  ·rw[vI];have av:=Rq (f st) 7 0;have az:=hf st;omega
  ·exact dB (hf st) (nX _)
theorem XB(h:xh (hd r)=true):r≠[]:=by intro e;rw[e] at h;exact absurd h (by decide)
theorem sO:∀d,BX (fq d)
 |0,st=>by
  rw[fq];split
  ·exact bx _
  ·exact XA st
 |d+1,st=>by
  rw[fq];split
  ·rename_i hs;have av:=aiC (sO d) (hd st.r) ⟨st.r.drop 1,st.ops,st.e⟩;have az:=List.length_pos_iff.2 (XB hs);simp only[gI] at av;omega
  ·exact XA st
end vF
namespace dH
abbrev bK:=Int×Int
structure cJ where
 k:Int
 a:bK
 b:bK
 c:bK
 r:Int
 l:List (List bK)
deriving DecidableEq
def gu:cJ:=⟨0,(0,0),(0,0),(0,0),0,[]⟩
inductive bc where
 |nil
 |cons (add:Bool) (b:cJ) (sub:bc) (rest:bc)
deriving DecidableEq
structure dK where
 b:cJ
 p:bc
deriving DecidableEq
def Rt:dK:=⟨gu,.nil⟩
namespace bc
def len:bc→Nat
 |nil=>0
 |cons _ _ _ r=>r.len+1
def count:bc→Nat
 |nil=>0
 |cons _ _ s r=>s.count+r.count+1
def append:bc→bc→bc
 |nil,q=>q
 |cons a b s r,q=>cons a b s (r.append q)
def map(f:cJ→cJ):bc→bc
 |nil=>nil
 |cons a b s r=>cons a (f b) (s.map f) (r.map f)
def one(a:Bool)(s:dK):bc:=cons a s.b s.p nil
end bc
def fZ(p:bK):Bool:=decide (-536870912≤p.1)&&(decide (p.1≤536870912)&&(decide (-536870912≤p.2)&&decide (p.2≤536870912)))
def vJ(r:Int):Bool:=decide (1≤r)&&decide (r≤536870912)
def z2:bK:=(0,0)
def k0(b:cJ)(n:Nat):Bool:=
 if (b.k≠2∧0<b.l.length)∨(b.k≠6∧0<n) then false
 else if b.k=1 then decide (b.b=z2)&&decide (b.c=z2)
 else if b.k=3∨b.k=4 then decide (b.c=z2)
 else if b.k=2∨b.k=6 then decide (b.a=z2)&&(decide (b.b=z2)&&(decide (b.c=z2)&&decide (b.r=0)))
 else true
def vK(l:List (List bK)):Bool:=decide ((l.map List.length).sum≤1000)&&l.all fun c=>c.all fZ
def qs(p q:bK):Int:=(p.1-q.1) *(p.1-q.1)+(p.2-q.2) *(p.2-q.2)
def JD(c a e:bK):Bool:=decide (qs a c≠0)&&decide (qs a c=qs e c)
def ho(b:cJ):Bool:=
 if b.k=1 then fZ b.a&&vJ b.r
 else if b.k=2 then vK b.l
 else if b.k=3 then fZ b.a&&(fZ b.b&&vJ b.r)
 else if b.k=4 then fZ b.a&&(fZ b.b&&(vJ b.r&&decide (b.a≠b.b)))
 else if b.k=5 then fZ b.a&&(fZ b.b&&(fZ b.c&&(vJ b.r&&JD b.c b.a b.b)))
 else false
def hI:bc→Nat→Int→Option Int
 |.nil,_,left=>some left
 |.cons _ b s r,f,left=>
  if left<1∨k0 b s.len=false then none
  else if b.k=6 then (if 8≤f then none else match hI s (f+1) (left-1) with
   |none=>none
   |some m=>hI r f m)
  else if ho b=true then hI r f (left-1) else none
def okV(s:dK):Bool:=(hI (.one true s) 0 1000).isSome
structure fR where
 bD:Bool
 bR:Bool
 q:Int
 eL:bK
deriving DecidableEq
def h1:fR:=⟨false,false,0,(0,0)⟩
def flip(c:Bool)(v:Int):Int:=if c then -v else v
def Gu(q:Int)(p:bK):bK:=if q%4=1 then (-p.2,p.1) else if q%4=2 then (-p.1,-p.2) else if q%4=3 then (p.2,-p.1) else p
def h2(t:fR)(p:bK):bK:=((Gu t.q (flip t.bD p.1,flip t.bR p.2)).1+t.eL.1,(Gu t.q (flip t.bD p.1,flip t.bR p.2)).2+t.eL.2)
def k1(t:fR)(b:cJ):cJ:=
 if b.k=1 then {gu with k:=1,r:=b.r,a:=h2 t b.a}
 else if b.k=3∨b.k=4 then {gu with k:=b.k,r:=b.r,a:=h2 t b.a,b:=h2 t b.b}
 else if b.k=5 then {gu with k:=5,r:=b.r,a:=(if t.bD≠t.bR then h2 t b.b else h2 t b.a),b:=(if t.bD≠t.bR then h2 t b.a else h2 t b.b),c:=h2 t b.c}
 else if b.k=2 then {gu with k:=2,r:=b.r,l:=b.l.map fun c=>c.map (h2 t)}
 else {gu with k:=b.k,r:=b.r}
def mj(t:fR):bc→bc
 |.nil=>.nil
 |.cons a b s r=>.cons a (k1 t b) (if b.k=6 then mj t s else .nil) (mj t r)
def lU(t:fR)(s:dK):dK:=⟨k1 t s.b,if s.b.k=6 then mj t s.p else .nil⟩
def po(t:fR)(s:dK):Option dK:=if okV s=true∧okV (lU t s)=true then some (lU t s) else none
theorem bc.ue(p q:bc):(p.append q).len=p.len+q.len:=by
 induction p with
 |nil=>simp[append,len]
 |cons a b s r _ cT=>simp[append,len,cT];omega
theorem bc.append_nil(p:bc):p.append .nil=p:=by
 induction p with
 |nil=>rfl
 |cons a b s r _ cT=>simp[append,cT]
theorem bc.append_assoc(p q r:bc):(p.append q).append r=p.append (q.append r):=by
 induction p with
 |nil=>rfl
 |cons a b s t _ cT=>simp[append,cT]
theorem bc.count_append(p q:bc):(p.append q).count=p.count+q.count:=by
 induction p with
 |nil=>simp[append,count]
 |cons a b s r _ cT=>simp[append,count,cT];omega
theorem Nj(t:fR)(p:bc):(mj t p).len=p.len:=by
 induction p with
 |nil=>rfl
 |cons a b s r _ cT=>simp[mj,bc.len,cT]
theorem aiD{p:bc}:∀{f:Nat} {n m:Int},hI p f n=some m→m≤n∧n-m=p.count:=by
 induction p with
 |nil=>intro f n m h;simp only[hI,mi] at h;subst h;simp[bc.count]
 |cons a b s r Ru JE=>
  intro f n m h;unfold hI at h;split at h
  ·cases h
  ·rename_i aT
   have ay:k0 b s.len=true:=by
    cases hx:k0 b s.len
    ·exact absurd (.inr hx) aT
    ·rfl
   split at h
   ·split at h
    ·cases h
    ·split at h
     ·cases h
     ·rename_i k ax;have av:=Ru ax;have az:=JE h;simp only[bc.count];omega
   ·rename_i cW;split at h
    ·have az:=JE h
     have hs:s.len=0:=by
      rcases Gs s.len with e|e
      ·exact e
      ·unfold k0 at ay;rw[a8 (.inr ⟨cW,e⟩)] at ay;cases ay
     have hc:s.count=0:=by
      cases s with
      |nil=>rfl
      |cons _ _ _ _=>simp[bc.len] at hs
     simp only[bc.count,hc];omega
    ·cases h
structure bO where
 aD:Int
 aC:Int
 aG:Int
 aE:Int
deriving DecidableEq
def eh:bO:=⟨0,0,0,0⟩
def sP(v:Int):Bool:=decide (-536870912≤v)&&decide (v≤536870912)
def okB(b:bO):Bool:=decide (b.aD≤b.aG)&&(decide (b.aC≤b.aE)&&(sP b.aD&&(sP b.aC&&(sP b.aG&&sP b.aE))))
def oI(b:bO):List bK:=[(b.aD,b.aC),(b.aG,b.aC),(b.aD,b.aE),(b.aG,b.aE)]
def splitB(b:bO):List bO:=
 let x:=b.aD+(b.aG-b.aD)/ 2;let y:=b.aC+(b.aE-b.aC)/ 2
 [⟨b.aD,b.aC,x,y⟩,⟨x,b.aC,b.aG,y⟩,⟨b.aD,y,x,b.aE⟩,⟨x,y,b.aG,b.aE⟩]
def mN(v lo hi:Int):Int:=if v<lo then lo-v else if hi<v then v-hi else 0
def Ac(v lo hi:Int):Int:=max (max (max (v-lo) (lo-v)) (v-hi)) (hi-v)
def Gv(b:bO)(p:bK):Int:=mN p.1 b.aD b.aG *mN p.1 b.aD b.aG+mN p.2 b.aC b.aE *mN p.2 b.aC b.aE
def JF(b:bO)(p:bK):Int:=Ac p.1 b.aD b.aG *Ac p.1 b.aD b.aG+Ac p.2 b.aC b.aE *Ac p.2 b.aC b.aE
def eH(o a b:bK):Int:=(a.1-o.1) *(b.2-o.2) -(a.2-o.2) *(b.1-o.1)
def Nk(o a b:bK):Int:=(b.1-o.1) *(a.1-o.1)+(b.2-o.2) *(a.2-o.2)
def qt(b:bO)(p q:bK):Bool:=
 if max p.1 q.1<b.aD∨b.aG<min p.1 q.1∨max p.2 q.2<b.aC∨b.aE<min p.2 q.2 then false
 else !((oI b).all fun c=>decide (0<eH p q c))&&!((oI b).all fun c=>decide (eH p q c<0))
def rH(b:bO):Bool:=decide (b.aG<b.aD)|| decide (b.aE<b.aC)
def sQ(a b:bO):Bool:=rH a ||(rH b ||(decide (a.aG<b.aD)||(decide (b.aG<a.aD)||(decide (a.aE<b.aC)|| decide (b.aE<a.aC)))))
def Ad(b:bO)(c:bK)(r:Int):Int:=if r *r<Gv b c then 0 else if JF b c≤r *r then 2 else 1
def XC(p a c:bK)(r:Int):Bool:=
 if Nk a c p≤0 then decide (qs p a≤r *r)
 else if qs c a≤Nk a c p then decide (qs p c≤r *r)
 else decide (eH a c p *eH a c p≤r *r *qs c a)
def aiE(b:bO)(a c:bK)(r:Int):Int:=
 if ((oI b).all fun p=>XC p a c r)=true then 2
 else if ((oI b).any fun p=>XC p a c r)=true∨Gv b a≤r *r∨Gv b c≤r *r∨qt b a c=true then 1 else 0
def Rv(p a c:bK)(h:Int):Int:=if eH a c p *eH a c p≤h *h *qs c a then 0 else if 0<eH a c p then 1 else -1
def Rw(p a c:bK):Int:=if Nk a c p<0 then -1 else if qs c a<Nk a c p then 1 else 0
def aiF(p a c:bK)(h:Int):Bool:=decide (Rv p a c h=0)&&decide (Rw p a c=0)
def aiG(b:bO)(a c:bK)(h:Int):Int:=
 if ((oI b).all fun p=>aiF p a c h)=true then 2
 else if ((oI b).all fun p=>decide (Rv p a c h= -1))=true∨((oI b).all fun p=>decide (Rv p a c h=1))=true∨((oI b).all fun p=>decide (Rw p a c= -1))=true∨((oI b).all fun p=>decide (Rw p a c=1))=true then 0
 else 1
def XD(c a e:bK):Bool:=decide (eH c a e<0)
def XE(d q r:Int):Bool:=decide (q-r *r-d≤0)|| decide ((q-r *r-d) *(q-r *r-d)≤4 *d *(r *r))
def XF(d q r:Int):Bool:=decide (d-q-r *r≤0)|| decide ((d-q-r *r) *(d-q-r *r)≤4 *q *(r *r))
def aiH(b:bO)(c a e:bK):Bool:=
 if a=e then true
 else if XD c a e=true then ((oI b).all fun p=>decide (0≤eH c a p))||((oI b).all fun p=>decide (0≤eH c p e))
 else ((oI b).all fun p=>decide (0≤eH c a p))&&((oI b).all fun p=>decide (0≤eH c p e))
def aiI(b:bO)(c a e:bK):Bool:=
 if a=e then false
 else if XD c a e=true then ((oI b).all fun p=>decide (eH c a p<0))&&((oI b).all fun p=>decide (eH c p e<0))
 else ((oI b).all fun p=>decide (eH c a p<0))||((oI b).all fun p=>decide (eH c p e<0))
def aiJ(b:bO)(c a e:bK)(r:Int):Int:=
 if Ad b a r=2∨Ad b e r=2 then 2
 else if aiH b c a e=true∧XE (Gv b c) (qs a c) r=true∧XF (JF b c) (qs a c) r=true then 2
 else if Ad b a r≠0∨Ad b e r≠0 then 1
 else if aiI b c a e=true∨XF (Gv b c) (qs a c) r=false∨XE (JF b c) (qs a c) r=false then 0
 else 1
def jy(c:List bK):List (bK×bK):=c.zip (c.drop 1++c.take 1)
def Ae(b:bO)(l:List (List bK)):Bool:=l.any fun c=>(jy c).any fun e=>qt b e.1 e.2
def vL(p a e:bK):Bool:=
 if decide (p.2<a.2)=decide (p.2<e.2) then false else if a.2<e.2 then decide (0<eH a e p) else decide (eH a e p<0)
def JG(p:bK)(l:List (List bK)):Bool:=l.foldl (fun i c=>(jy c).foldl (fun i e=>if vL p e.1 e.2=true then !i else i) i) false
def BY(b:bO)(l:List (List bK)):Int:=if Ae b l=true then 1 else if JG (b.aD,b.aC) l=true then 2 else 0
def nZ(was cls:Int)(add:Bool):Int:=
 if was<0∨2<was∨cls<0∨2<cls then 1
 else if cls=0 then was
 else if cls=2 then (if add=true then 2 else 0)
 else if add=true∧was=2 then 2
 else if add=false∧was=0 then 0
 else 1
def BZ(x:bO)(b:cJ)(sub:Int):Int:=
 if b.k=1 then Ad x b.a b.r
 else if b.k=2 then BY x b.l
 else if b.k=3 then aiE x b.a b.b b.r
 else if b.k=4 then aiG x b.a b.b b.r
 else if b.k=5 then aiJ x b.c b.a b.b b.r
 else sub
def pV(x:bO):bc→Int→Int
 |.nil,acc=>acc
 |.cons a b s r,acc=>pV x r (nZ acc (BZ x b (pV x s 0)) a)
def DP(x:bO)(s:dK):Int:=BZ x s.b (pV x s.p 0)
def k2(x:bO)(s:dK):Int:=if okV s=true then DP x s else 0
def Rx:Nat→Int→Int→Int→Int
 |0,lo,_,_=>lo
 |k+1,lo,hi,v=>if lo<hi then (if v≤(lo+hi)/ 2 *((lo+hi)/ 2) then Rx k lo ((lo+hi)/ 2) v else Rx k ((lo+hi)/ 2+1) hi v) else lo
def aiK(v:Int):Int:=Rx 32 0 2147483648 v
def ml(p q:bK)(r:Int):bO:=⟨max (min p.1 q.1-r) (-536870912),max (min p.2 q.2-r) (-536870912),min (max p.1 q.1+r) 536870912,min (max p.2 q.2+r) 536870912⟩
def nu(o:Option bO)(b:bO):Option bO:=match o with
 |none=>some b
 |some a=>some ⟨min a.aD b.aD,min a.aC b.aC,max a.aG b.aG,max a.aE b.aE⟩
def yW(b:cJ)(sub:Option bO→Option bO):Option bO:=
 if b.k=1 then some (ml b.a b.a b.r)
 else if b.k=3∨b.k=4 then some (ml b.a b.b b.r)
 else if b.k=5 then some (ml b.c b.c (b.r+aiK (qs b.a b.c)))
 else sub (b.l.foldl (fun o c=>c.foldl (fun o p=>nu o (ml p p 0)) o) none)
def lq:bc→Option bO→Option bO
 |.nil,o=>o
 | .cons a b s r,o=>lq r (if a=true then (match yW b (lq s) with
  |none=>o
  |some x=>nu o x) else o)
def sR(s:dK):Option bO:=if okV s=true then yW s.b (lq s.p) else none
end dH
namespace vM
open j6
open Go.Lib (decDigits nDigits trimRightB)
def rI(u:Int):Int:=if u=1 then 10 else if u=2 then 254 else 0
def rJ(u i d:Int):Bool:=(decide (u=1)|| decide (u=2))&&(decide (0≤i)&&decide (i≤6))&&(decide (0≤d)&&decide (d≤6))&&decide (0<i+d)
theorem Ry(u i d:Int):rJ u i d=true↔(u=1∨u=2)∧0≤i∧i≤6∧0≤d∧d≤6∧0<i+d:=by simp[rJ];omega
def gV(n u:Int):Option Int:=
 if sL n=true∧(u=1∨u=2)∧-536870912≤n *rI u∧n *rI u≤536870912 then some (n *rI u) else none
def k3(l:au)(u i d:Int)(t:Bool):Option Int:=
 if rJ u i d=true∧1≤(strip l).2.length∧((strip l).2.length:Int)≤i+d∧bA (strip l).2=(strip l).2.length then
  let v:Int:=(val (strip l).2 *(if t then 10 ^((i+d).toNat -(strip l).2.length) else 1) *10 ^(6-d.toNat):Nat)
  gV (if (strip l).1 then -v else v) u
 else none
def Rz(v size:Nat)(t:Bool):List UInt8:=
 if t then (if trimRightB (pad v size) 48=[] then[48] else trimRightB (pad v size) 48) else decDigits v
theorem aiL{u:Int}(h:u=1∨u=2):rI u=10∨rI u=254:=by rcases h with rfl|rfl<;>simp[rI]
theorem JH(k:Nat)(h:k≤12):10^k≤1000000000000:=by have:=vE (n:=10) (by decide) h;simpa using this
end vM
namespace Fr
def pW(n d:Int):Int×Int×Nat:=
 if d=0 then (0,0,10) else if 1073741824<n.natAbs/Nat.gcd n.natAbs d.natAbs∨1073741824<d.natAbs/Nat.gcd n.natAbs d.natAbs then (0,0,5)
 else (if (n<0)≠(d<0) then -((n.natAbs/Nat.gcd n.natAbs d.natAbs:Nat):Int) else ((n.natAbs/Nat.gcd n.natAbs d.natAbs:Nat):Int),((d.natAbs/Nat.gcd n.natAbs d.natAbs:Nat):Int),0)
def In(n d:Int):Prop:=1≤d∧d≤1073741824∧-1073741824≤n∧n≤1073741824
instance(n d:Int):Decidable (In n d):=by unfold In;infer_instance
def B0(n d:Int):Bool:=decide (In n d)&&decide (Nat.gcd n.natAbs d.natAbs=1)
def Nl(k n d m e:Int):Int×Int×Nat:=
 if B0 n d=true∧B0 m e=true then
  (if k=3 then pW (n *e+m *d) (d *e) else if k=4 then pW (n *e-m *d) (d *e) else if k=5 then pW (n *m) (d *e) else if k=6 then pW (n *e) (d *m) else (0,0,5))
 else (0,0,5)
theorem aiM(n:Nat){d:Nat}(h:0<d):0<Nat.gcd n d:=Nat.gcd_pos_of_pos_right n h
end Fr
namespace Fr
open j6
def nv(k n:Int):Bool:=
 if k=1 then decide (0≤n)&&sL n else if k=2 then decide (1≤n∧n≤99) else if 3≤k∧k≤7 then decide (n=0) else false
def vN(k:Int):Nat:=if k=1∨k=2 then 0 else if k=7 then 1 else 2
def top(st:List (Int×Int))(i:Nat):Int×Int:=st.getD (st.length-i) (0,0)
def kY(vars:List (Int×Int))(n:Int):Int×Int:=if n≤vars.length then vars.getD (n.toNat-1) (0,0) else (0,1)
def pX(vars st:List (Int×Int))(k n:Int):Int×Int×Nat:=
 if k=1 then pW n 1000000
 else if k=2 then ((kY vars n).1,(kY vars n).2,if B0 (kY vars n).1 (kY vars n).2=true then 0 else 5)
 else if k=7 then (-(top st 1).1,(top st 1).2,0)
 else Nl k (top st 2).1 (top st 2).2 (top st 1).1 (top st 1).2
def Gw(vars st:List (Int×Int))(k n:Int):List (Int×Int)× Nat:=
 if nv k n=false∨st.length<vN k then (st,3)
 else if (pX vars st k n).2.2=0 then (st.take (st.length-vN k)++[((pX vars st k n).1,(pX vars st k n).2.1)],0) else (st,(pX vars st k n).2.2)
def sN(st:List (Int×Int)):Int×Int×Nat:=match st with
 |[x]=>(x.1,x.2,0)
 |_=>(0,0,3)
def yV(vars:List (Int×Int)):List (Int×Int)→List (Int×Int)→Int×Int×Nat
 |[],st=>sN st
 |o::l,st=>if (Gw vars st o.1 o.2).2=0 then yV vars l (Gw vars st o.1 o.2).1 else (0,0,(Gw vars st o.1 o.2).2)
def B1(vars l:List (Int×Int)):Int×Int×Nat:=yV vars l []
def Small(st:List (Int×Int)):Prop:=∀x∈st,-1073741824≤x.1∧x.1≤1073741824∧0≤x.2∧x.2≤1073741824
theorem Small.take{st:List (Int×Int)}(h:Small st)(k:Nat):Small (st.take k):=fun x hx=>h x (List.mem_of_mem_take hx)
theorem Small.snoc{st:List (Int×Int)}(h:Small st){n d:Int}(av:-1073741824≤n)(az:n≤1073741824)(aF:0≤d)(bk:d≤1073741824):Small (st++[(n,d)]):=by
 intro x hx;rcases List.mem_append.1 hx with hx|hx
 ·exact h x hx
 ·simp only[Rj] at hx;subst hx;exact⟨av,az,aF,bk⟩
end Fr
namespace bS
open j6
open vF (vH)
structure ea where
 a:Nat
 ext:Bool
 first:Bool
 t:List UInt8
deriving DecidableEq
structure iy where
 words:List ea
 text:List UInt8
 a:Nat
 group:Bool
 inner:Nat
deriving DecidableEq
def xi:iy:=⟨[],[],0,false,0⟩
def Gx(s:iy):Except Nat iy:=
 if s.text=[] then .error 2 else .ok {s with words:=s.words++[⟨s.a,s.group,decide (s.inner=0),s.text⟩],inner:=(if s.group=true then s.inner+1 else s.inner),text:=[]}
def xj(s:iy)(c:UInt8):Except Nat iy:=if s.text.length=10000 then .error 6 else .ok {s with text:=s.text++[c]}
def rK(s:iy)(c:UInt8)(i:Nat):Except Nat iy:=
 if c=13∨c=10 then .ok s
 else if c.toNat<32∨126<c.toNat then .error 2
 else if c=42 then Gx s
 else if c=37 then (if s.text≠[]∨(s.group=true∧s.inner=0) then .error 2 else .ok {s with group:=!s.group,inner:=0})
 else if s.text=[] then (if s.words.length=20000 then .error 6 else xj {s with a:=i} c)
 else xj s c
def jl:au→Nat→iy→Except (Nat×Nat) iy
 |[],_,s=>.ok s
 |c::r,i,s=>match rK s c i with
  |.error e=>.error (i,e)
  |.ok s'=>jl r (i+1) s'
def uf(s:au):List ea×Nat×Nat:=
 if 1000000<s.length then ([],0,6) else match jl s 0 xi with
  |.error (i,e)=>([],i,e)
  |.ok st=>if st.text≠[]∨st.group=true then ([],s.length,2) else (st.words,0,0)
structure eg where
 k:Int
 n:Int
 t:List UInt8
 args:List (List (Int×Int))
deriving DecidableEq
def cy:eg:=⟨0,0,[],[]⟩
def ug(s:au):Option (List UInt8×List UInt8):=if bA s=0∨s.headD 0=48 then none else some (s.take (bA s),s.drop (bA s))
def JI(s:au):Except Nat eg:=match ug s with
 |none=>.error 3
 |some (d,r)=>if 2<d.length∨r.headD 0≠61 then .error 3 else match vH (r.drop 1) with
  |(l,_,e)=>if e≠0 then .error e else .ok ⟨2,val d,[],[l]⟩
def qu(d:au):Int:=if d=[49] then 1 else if d=[52] then 4 else if d=[55] then 7 else if d=[50,48] then 20 else if d=[50,49] then 21 else 0
def eu(c:UInt8)(s:au):List UInt8×List UInt8×Bool:=
 if (s.takeWhile (· !=c)).length<s.length then (s.takeWhile (· !=c),s.drop ((s.takeWhile (· !=c)).length+1),true) else (s,[],false)
def lV(n:Int)(k:Nat):Bool:=
 if n=1 then decide (k=4)|| decide (k=5) else if n=20 then decide (k=7) else if n=21∨n=7 then decide (k=6) else if n=4 then decide (k%2=1)&&(decide (7≤k)&&decide (k≤1100)) else false
def pY:Nat→au→List (List (Int×Int))→Except Nat (List (List (Int×Int)))
 |0,_,acc=>.ok acc
 |f+1,s,acc=>if acc.length=1100 then .error 6 else match vH (eu 44 s).1 with
  |(l,_,e)=>if e≠0 then .error e else if (eu 44 s).2.2=true then pY f (eu 44 s).2.1 (acc++[l]) else .ok (acc++[l])
def rL(s:au):Except Nat eg:=match ug s with
 |none=>.error 3
 |some (d,r)=>if r.headD 0≠44 then .error 3 else if qu d=0 then .error 8 else match pY (r.length+1) (r.drop 1) [] with
  |.error e=>.error e
  |.ok l=>if lV (qu d) l.length=true then .ok ⟨3,qu d,[],l⟩ else .error 3
def sS(s:au):Except Nat eg:=
 if s=[48] then .ok {cy with k:=1} else if s.take 2=[48,32] then .ok {cy with k:=1,t:=s.drop 2} else if s.headD 0=36 then JI (s.drop 1) else rL s
def vO:List (List UInt8)→Nat→List eg→Except (Nat×Nat) (List eg)
 |[],_,acc=>.ok acc
 |s::l,i,acc=>match sS s with
  |.error e=>.error (i,e)
  |.ok b=>vO l (i+1) (acc++[b])
def yX(l:List (List UInt8)):List eg×Nat×Nat:=if 500<l.length then ([],0,6) else match vO l 0 [] with
 |.error (i,e)=>([],i,e)
 |.ok b=>(b,0,0)
structure C where
 k:Int
 n:Int
 m:Int
 on:Bool
 t:List UInt8
 x:List UInt8
 y:List UInt8
 i:List UInt8
 j:List UInt8
 b6:List Int
 blocks:List eg
deriving DecidableEq
def aN:C:=⟨0,0,0,false,[],[],[],[],[],[],[]⟩
def b4(k:Int):C:={aN with k:=k}
def DQ(t:au):Option Nat:=if t.length<1∨4<t.length∨bA t≠t.length then none else some (val t)
def vP(t:au):Option Nat:=if t.length<2∨t.headD 0=48 then none else DQ t
def Nn(c:UInt8):Bool:=(decide (97≤c.toNat)&&decide (c.toNat≤122))||(decide (65≤c.toNat)&&decide (c.toNat≤90))|| c==95 || c==46 || c==36
def RA(c:UInt8):Bool:=e2 c || c==45
def qX(t:au):Bool:=decide (1≤t.length)&&(decide (t.length≤100)&&(Nn (t.headD 0)&&(t.drop 1).all fun c=>Nn c || RA c))
def vQ(r:au):Nat:=if r≠[]∧(r.headD 0=43∨r.headD 0=45) then 1 else 0
def kG(t:au)(c:UInt8):List UInt8×List UInt8:=
 if t≠ []∧t.headD 0=c then (
  if bA ((t.drop 1).drop (vQ (t.drop 1)))<1∨12<bA ((t.drop 1).drop (vQ (t.drop 1))) then ([],t)
  else ((t.drop 1).take (vQ (t.drop 1)+bA ((t.drop 1).drop (vQ (t.drop 1)))),(t.drop 1).drop (vQ (t.drop 1)+bA ((t.drop 1).drop (vQ (t.drop 1))))))
 else ([],t)
def sT(t:au):Int:=if t=[68,48,49] then 1 else if t=[68,48,50] then 2 else if t=[68,48,51] then 3 else 0
def pX(t:au):Option C:=
 let x:=kG t 88;let y:=kG x.2 89;let i:=kG y.2 73;let j:=kG i.2 74
 if sT j.2=0 then none else some {b4 7 with n:=sT j.2,x:=x.1,y:=y.1,i:=i.1,j:=j.1}
def qY(t:au)(cs:List C):Except Nat (List C):=
 match (if t≠[]∧t.headD 0=68∧cs=[] then vP (t.drop 1) else none) with
 |some n=>.ok [{b4 6 with n:=n}]
 |none=>match pX t with
  |none=>.error 3
  |some c=>.ok (cs++[c])
def uh(t:au)(n:Int):Except Nat (List C):=if t.drop 3=[] then .ok [{b4 2 with n:=n}] else qY (t.drop 3) [{b4 2 with n:=n}]
def vR(t:au):Except Nat (List C):=
 if t=[71,51,54] then .ok [{b4 3 with on:=true}]
 else if t=[71,51,55] then .ok [b4 3]
 else if t=[71,55,52] then .error 8
 else if t=[71,55,53] then .ok [b4 4]
 else if t=[77,48,50] then .ok [b4 5]
 else if t.take 3=[71,48,52] then .ok [{b4 1 with t:=t.drop 3}]
 else if t.take 3=[71,48,49] then uh t 1
 else if t.take 3=[71,48,50] then uh t 2
 else if t.take 3=[71,48,51] then uh t 3
 else qY t []
def Gy:List (List UInt8×C):=
 [([77,79,77,77],{b4 9 with n:=1}),([77,79,73,78],{b4 9 with n:=2}),([65,66],b4 12),([83,82],b4 14),([76,80,68],{b4 15 with on:=true}),([76,80,67],b4 15),([76,77,78],b4 16),([76,77,88],{b4 16 with n:=1}),([76,77,89],{b4 16 with n:=2}),([76,77,88,89],{b4 16 with n:=3})]
def No(t:au):Option C:=
 if t.length≠8∨(t.headD 0≠76∧t.headD 0≠84)∨(t.drop 1).take 2≠[65,88]∨bA (t.drop 3)≠2∨(t.drop 5).headD 0≠89∨t.drop 6≠(t.drop 3).take 2 then none
 else some {b4 8 with on:=decide (t.headD 0=84),n:=(((t.drop 3).headD 0).toNat:Int)-48,m:=(((t.drop 4).headD 0).toNat:Int)-48}
def B2:Nat→au→List Int→Option (List Int)
 |0,_,acc=>some acc
 |f+1,s,acc=>match dec (eu 88 s).1 with
  |none=>none
  |some v=>if (eu 88 s).2.2=true then B2 f (eu 88 s).2.1 (acc++[v]) else some (acc++[v])
def mO(t:au):Option C:=
 if t.headD 0≠68 then none else match Np (t.drop 1) with
  |none=>none
  |some (n,r)=>if qX (eu 44 r).1=false then none else if (eu 44 r).2.2=false then some {b4 10 with n:=n,t:=(eu 44 r).1} else
   (match B2 (r.length+1) (eu 44 r).2.1 [] with
    |none=>none
    |some l=>some {b4 10 with n:=n,t:=(eu 44 r).1,b6:=l})
where Np (r:au):Option (Nat×List UInt8):=match vP (r.take (bA r)) with
 |none=>none
 |some n=>some (n,r.drop (bA r))
def Nq(t:au):Option C:=if t.headD 0≠68 then none else match vP (t.drop 1) with
 |none=>none
 |some n=>some {b4 11 with n:=n}
def stepG(t:au):Option C:=
 if t.headD 0≠88 then none else
 match DQ (eu 89 (t.drop 1)).1,DQ (eu 73 (eu 89 (t.drop 1)).2.1).1,dec (eu 74 (eu 73 (eu 89 (t.drop 1)).2.1).2.1).1,dec (eu 74 (eu 73 (eu 89 (t.drop 1)).2.1).2.1).2.1 with
 |some n,some m,some x,some y=>some {b4 13 with n:=n,m:=m,b6:=[x,y]}
 |_,_,_,_=>none
def XG(t:au):Option C:=match dec t with
 |none=>none
 |some v=>some {b4 17 with b6:=[v]}
def Nr(t:au):Option C:=
 if t.take 2=[70,83] then No (t.drop 2) else if t.take 2=[65,68] then mO (t.drop 2) else if t.take 2=[65,66] then Nq (t.drop 2) else if t.take 2=[83,82] then stepG (t.drop 2) else if t.take 2=[76,82] then XG (t.drop 2)
 else if t.take 2=[84,70]∨t.take 2=[84,65]∨t.take 2=[84,79]∨t.take 2=[84,68] then some {b4 18 with t:=t} else none
def ui(t:au):Except Nat C:=
 if t.take 2=[76,83] then .error 8 else match Gy.lookup t with
  |some c=>.ok c
  |none=>match Nr t with
   |none=>.error 3
   |some c=>.ok c
def xk(w:ea)(ws:List ea):Except (Nat×Nat) (List C):=
 if w.t.take 2≠ [65,77] then (match ui w.t with
  |.error e=>.error (w.a,e)
  |.ok c=>match ws with
   |[]=>.ok [c]
   |x::_=>.error (x.a,3))
 else if qX (w.t.drop 2)=false then .error (w.a,3)
 else match yX (ws.map ea.t) with
  |(b,i,e)=>if e≠0 then .error (((ws.map ea.a)[i]?).getD 0,e) else .ok [{b4 19 with t:=w.t.drop 2,blocks:=b}]
def vS(w:ea)(ws:List ea):Except (Nat×Nat) (List C):=
 if w.ext=true then xk w ws else match vR w.t with
  |.error e=>.error (w.a,e)
  |.ok l=>.ok l
def sU:Nat→List ea→List (Nat×C)→Except (Nat×Nat) (List (Nat×C))
 |0,_,acc=>.ok acc
 |_+1,[],acc=>.ok acc
 |f+1,w::ws,acc=>match vS w (ws.takeWhile fun x=>!x.first) with
  |.error e=>.error e
  |.ok l=>sU f (ws.dropWhile fun x=>!x.first) (acc++l.map fun c=>(w.a,c))
def j7(s:au):List (Nat×C)× Nat×Nat:=match uf s with
 |(ws,i,e)=>if e≠0 then ([],i,e) else match sU ws.length ws [] with
  |.error (i,e)=>([],i,e)
  |.ok l=>(l,0,0)
theorem Gz(c:UInt8)(r:au)(i:Nat)(s:iy):jl (c::r) i s=match rK s c i with|.error e=>.error (i,e)|.ok s'=>jl r (i+1) s':=rfl
theorem go_append:∀(s t:au) (i:Nat) (st:iy),jl (s++t) i st=match jl s i st with|.error x=>.error x|.ok de=>jl t (i+s.length) de
 |[],t,i,st=>by simp[jl]
 |c::s,t,i,st=>by
  rw[Jv,Gz,Gz];cases h:rK st c i with
  |error e=>rfl
  |ok de=>
   simp only[];rw[go_append s t (i+1) de,eP,show i+1+s.length=i+(s.length+1) by omega]
def base(ws:List ea)(a:Nat):iy:=⟨ws,[],a,false,0⟩
theorem aiN:xi=base [] 0:=rfl
def GA(s:au):Prop:=∀i a ws,ws.length+s.count 42<20000→(∃x,jl s i (base ws a)=.error x)∨∃XH hq,jl s i (base ws a)=.ok (base XH hq)∧XH.length≤ws.length+s.count 42
theorem GA.nil:GA []:=fun i a ws _=>.inr ⟨ws,a,rfl,bx _⟩
theorem GA.append{s t:au}(hs:GA s)(bB:GA t):GA (s++t):=by
 intro i a ws h;rw[List.count_append] at h;rw[go_append];rcases hs i a ws (by omega) with ⟨x,e⟩|⟨aiO,bE,e,av⟩
 ·rw[e];exact .inl ⟨x,rfl⟩
 ·rw[e];simp only[];rcases bB (i+s.length) bE aiO (by omega) with ⟨x,a6⟩|⟨DR,a2,a6,az⟩
  ·exact .inl ⟨x,a6⟩
  ·exact .inr ⟨DR,a2,a6,by rw[List.count_append];omega⟩
def wc(c:UInt8):Bool:=decide (32≤c.toNat)&&(decide (c.toNat≤126)&&(c !=42 &&c !=37))
theorem XI{c:UInt8}(h:wc c=true)(st:iy)(i:Nat):rK st c i=if st.text=[] then (if st.words.length=20000 then .error 6 else xj {st with a:=i} c) else xj st c:=by simp only[wc,ix,iO,xf] at h;unfold rK;rw[aR (by rintro (rfl|rfl)<;>simp at h),aR (by omega),aR h.2.2.1,aR h.2.2.2]
theorem go_more:∀(p:au) (i:Nat) (st:iy),(∀c∈p,wc c=true)→st.text≠[]→st.text.length+p.length≤10000→jl p i st=.ok {st with text:=st.text++p}
 |[],i,st,_,_,_=>by simp[jl]
 |c::p,i,st,h,hn,aA=>by simp only[eP] at aA;rw[Gz,XI (h c (by simp)),aR hn];unfold xj;rw[aR (by omega)];simp only[];rw[go_more p (i+1) _ (fun x hx=>h x (by simp[hx])) (by simp) (by simp;omega)];simp
variable{p:au}
theorem go_text(h:∀c∈p,wc c=true)(hn:p≠[])(aA:p.length≤10000)(i a:Nat)(ws:List ea)(g:Bool)(n:Nat)(hw:ws.length<20000):jl p i ⟨ws,[],a,g,n⟩=.ok ⟨ws,p,i,g,n⟩:=by
 cases p with
 |nil=>exact absurd rfl hn
 |cons c p=>
  simp only[eP] at aA;rw[Gz,XI (h c (by simp)),a8 rfl,aR (by show ¬ws.length=20000;omega)];unfold xj;rw[aR (by simp)];simp only[Jw];rw[go_more p (i+1) _ (fun x hx=>h x (by simp[hx])) (by simp) (by simp;omega)];simp
theorem go_word(h:∀c∈p,wc c=true)(hn:p≠[])(aA:p.length≤10000)(i a:Nat)(ws:List ea)(g:Bool)(n:Nat)(hw:ws.length<20000):
  jl (p++[42]) i ⟨ws,[],a,g,n⟩=.ok ⟨ws++[⟨i,g,decide (n=0),p⟩],[],i,g,if g=true then n+1 else n⟩:=by
 rw[go_append,go_text h hn aA i a ws g n hw];simp only[];rw[Gz];unfold rK;rw[aR (by decide),aR (by decide),a8 rfl];unfold Gx;rw[aR hn];rfl
theorem go_pct{st:iy}(av:st.text=[])(az:¬(st.group=true∧st.inner=0))(i:Nat):jl [37] i st=.ok {st with group:=!st.group,inner:=0}:=by rw[Gz];unfold rK;rw[aR (by decide),aR (by decide),aR (by decide),a8 rfl,aR (by rintro (e|e);exact e av;exact az e)];rfl
def cF(d:Nat)(w:ea):ea:={w with a:=w.a+d}
end bS
namespace bS
open j6
open vF (vH dF)
def vT(x:ea):Bool:=!x.first
def XJ(ws:List ea):Prop:=∀w∈ws.head?,w.first=true
theorem aiP(r:List ea){DR:List ea}(h:XJ DR):(r++DR).takeWhile vT=r.takeWhile vT∧(r++DR).dropWhile vT=r.dropWhile vT++DR:=by
 induction r with
 |nil=>
  cases DR with
  |nil=>exact⟨rfl,rfl⟩
  |cons w l=>
   have:w.first=true:=h w rfl;simp[vT,this]
 |cons x r cT=>
  by_cases hx:vT x=true
  ·simp[hx,cT.1,cT.2]
  ·simp[hx]
theorem RB(f:Nat)(acc:List (Nat×C)):sU f [] acc=.ok acc:=by cases f<;>rfl
theorem aiQ(f:Nat)(w:ea)(ws:List ea)(acc:List (Nat×C)):sU (f+1) (w::ws) acc=match vS w (ws.takeWhile vT) with|.error e=>.error e|.ok l=>sU f (ws.dropWhile vT) (acc++l.map fun c=>(w.a,c)):=rfl
theorem aiR{s:au}{ws:List ea}(h:uf s=(ws,0,0)):j7 s=match sU ws.length ws [] with|.error (i,e)=>([],i,e)|.ok l=>(l,0,0):=by unfold j7;rw[h];exact aR (by decide)
end bS
