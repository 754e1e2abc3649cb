/- Lemmas. -/
import Derived.Lib.ItoaLen
import Derived.Lib.TrimByte
import Derived.Lib.Bytealg
import Derived.Test.YtfldplmgkeiimaaGreatDoorLaysB
import Derived.WalkKit
import Derived.WalkSpells
import Derived.WalkLawsBesides
import Derived.Lib.Hide
import Derived.Lib.Strings
import Derived.Lib.AppendIntMem
import Derived.Deep.DeepCutAuto
import Derived.Deep.CutRange
import Derived.BigQuiet
import Derived.Deep.QuietTactic
import Derived.Outline
import Derived.Deep.DeepFit
set_option linter.all false
namespace Go.Proofs.YtfldplmgkeiimaaGreatDoor
abbrev x6:=@Bool.eq_false_iff
abbrev Ql:=@List.takeWhile_cons
abbrev bb:=@if_pos
abbrev aW:=@if_neg
abbrev HS:=@Nat.lt_or_eq_of_le
abbrev Fg:=@Nat.pow_succ
abbrev Fh:=@List.foldl_cons
abbrev fY:=@List.length_cons
abbrev uJ:=@List.take_length
abbrev uK:=@Classical.byContradiction
abbrev lD:=@List.drop_eq_getElem_cons
abbrev x7:=@List.length_reverse
abbrev Fi:=@Nat.zero_mul
abbrev j7:=@Nat.zero_add
abbrev Qm:=@Nat.mul_assoc
abbrev wo:=@Nat.add_assoc
abbrev bx:=@Nat.le_refl
abbrev fH:=@List.length_drop
abbrev dx:=@Nat.le_trans
abbrev iv:=@List.length_append
abbrev tj:=@List.length_nil
abbrev mv:=@Nat.le_succ
abbrev Wg:=@List.takeWhile_prefix
abbrev Wh:=@Array.getElem?_eq_none_iff
abbrev x8:=@Lib.extract_data
abbrev wq:=@List.take_of_length_le
structure IT where
instance:CoeFun IT fun _=>Int→Value:=⟨fun _=>.int .i64⟩
def I:IT:=⟨⟩
structure JT where
instance:CoeFun JT fun _=>Nat→Value:=⟨fun _=>.slice none 0⟩
def J:JT:=⟨⟩
structure UT where
instance:CoeFun UT fun _=>Bool→Value:=⟨fun _=>.bool⟩
def U:UT:=⟨⟩
structure aaT where
instance:CoeFun aaT fun _=>ByteArray→Value:=⟨fun _=>.string⟩
def aa:aaT:=⟨⟩
structure abT where
instance:CoeFun abT fun _=>Value→Ending:=⟨fun _=>.returned⟩
def ab:abT:=⟨⟩
structure adT where
instance:CoeFun adT fun _=>Option Addr→Nat→Nat→Value:=⟨fun _=>.slice⟩
def ad:adT:=⟨⟩
structure aeT where
instance:CoeFun aeT fun _=>Int→Int:=⟨fun _=>IntKind.i64.wrap⟩
def ae:aeT:=⟨⟩
structure afT where
instance:CoeFun afT fun _=>Prop→Prop:=⟨fun _=>RowKit.Hid⟩
def af:afT:=⟨⟩
structure agT(b o n c:Nat) where
def ag(b o n c:Nat):agT b o n c:=⟨⟩
instance(b o n c:Nat):CoeOut (agT b o n c) Value:=⟨fun _=>.slice (some ⟨b,o,none⟩) n c⟩
structure ahT(b o:Nat) where
def ah(b o:Nat):ahT b o:=⟨⟩
instance(b o:Nat):CoeOut (ahT b o) Value:=⟨fun _=>.pointer (some ⟨b,o,none⟩)⟩
structure aiT(x:Array Value)(t:TypeId) where
def ai(x:Array Value)(t:TypeId):aiT x t:=⟨⟩
instance(x:Array Value)(t:TypeId):CoeOut (aiT x t) Obj:=⟨fun _=>.cells x t⟩
structure ajT(b o:Nat) where
def aj(b o:Nat):ajT b o:=⟨⟩
instance(b o:Nat):CoeOut (ajT b o) Addr:=⟨fun _=>⟨b,o,none⟩⟩
structure akT(w:World)(b o:Nat)(v:Value) where
def ak(w:World)(b o:Nat)(v:Value):akT w b o v:=⟨⟩
instance(w:World)(b o:Nat)(v:Value):CoeOut (akT w b o v) Prop:=⟨fun _=>w.cell? ⟨b,o,none⟩=some v⟩
instance(w:World)(b o:Nat)(v:Value):CoeSort (akT w b o v) Prop:=⟨fun _=>w.cell? ⟨b,o,none⟩=some v⟩
structure anT(w:World)(b:Nat)(x:Array Value)(t:TypeId) where
def an(w:World)(b:Nat)(x:Array Value)(t:TypeId):anT w b x t:=⟨⟩
instance(w:World)(b:Nat)(x:Array Value)(t:TypeId):CoeOut (anT w b x t) Prop:=⟨fun _=>w.heap[b]?=some (.cells x t)⟩
instance(w:World)(b:Nat)(x:Array Value)(t:TypeId):CoeSort (anT w b x t) Prop:=⟨fun _=>w.heap[b]?=some (.cells x t)⟩
structure aoT(w x y:World) where
def ao(w x y:World):aoT w x y:=⟨⟩
instance(w x y:World):CoeOut (aoT w x y) Prop:=⟨fun _=>RowKit.Below w.heap.size x y⟩
instance(w x y:World):CoeSort (aoT w x y) Prop:=⟨fun _=>RowKit.Below w.heap.size x y⟩
theorem aq{p:Prop}(h:p):RowKit.Hid p:=h
theorem ar{A:Sort _}(a:A):∃x,a=x:=⟨a,rfl⟩
structure auT where
instance:CoeSort auT Type:=⟨fun _=>List UInt8⟩
def au:auT:=⟨⟩
structure aeHT where
instance:CoeSort aeHT Type:=⟨fun _=>List Value⟩
def aev:aeHT:=⟨⟩
structure ajHT where
instance:CoeSort ajHT Type:=⟨fun _=>Array Value⟩
def ajv:ajHT:=⟨⟩
structure JAV where
instance:CoeSort JAV Type:=⟨fun _=>Option Addr⟩
def Ja:JAV:=⟨⟩
structure afWi where
instance:CoeSort afWi Type:=⟨fun _=>Nat→Prop⟩
def afp:afWi:=⟨⟩
structure aeWj where
instance:CoeSort aeWj Type:=⟨fun _=>World⟩
def aeo:aeWj:=⟨⟩
structure adAV where
instance:CoeSort adAV Type:=⟨fun _=>Value⟩
def ada:adAV:=⟨⟩
structure UAV where
instance:CoeSort UAV Type:=⟨fun _=>ByteArray⟩
def Ua:UAV:=⟨⟩
structure aaWk where
instance:CoeSort aaWk Type:=⟨fun _=>TypeId⟩
def aai:aaWk:=⟨⟩
namespace ig
def fi(c:UInt8):Bool:=decide (48≤c.toNat)&&decide (c.toNat≤57)
def bn(l:au):Nat:=(l.takeWhile fi).length
def val(l:au):Nat:=l.foldl (fun v c=>v *10+(c.toNat-48)) 0
theorem ph(c:UInt8):fi c=true↔48≤c.toNat∧c.toNat≤57:=by simp[fi]
theorem zh(c:UInt8):fi c=false↔c.toNat<48∨57<c.toNat:=by rw[x6,Ne,ph];omega
theorem HU(l:au)(c:UInt8):val (l++[c])=val l *10+(c.toNat-48):=by simp[val]
theorem L3(c:UInt8)(l:au):bn (c::l)=if fi c then bn l+1 else 0:=by unfold bn;rw[Ql];split<;>simp
theorem qd(l:au):bn l≤l.length:=by
 unfold bn;induction l with
 |nil=>simp
 |cons c l cO=>rw[Ql];split<;>simp;omega
theorem x9(l:au):(∀k (h:k<l.length),k<bn l→fi l[k]=true)∧(∀h:bn l<l.length,fi l[bn l]=false):=by
 induction l with
 |nil=>simp[bn]
 |cons c l cO=>
  rw[L3];by_cases hc:fi c=true
  ·rw[bb hc];refine⟨fun k h ay=>?_,fun h=>?_⟩
   ·cases k with
    |zero=>simpa using hc
    |succ k=>simpa using cO.1 k (by simpa using h) (by omega)
   ·simpa using cO.2 (by simpa using h)
  ·rw[aW hc];exact⟨fun k h ay=>by omega,fun h=>by simpa using hc⟩
variable{l r:au}{k:Nat}
theorem HV(ay:k≤bn l)(h:k<l.length)(hd:fi l[k]=true):k<bn l:=by
 rcases HS ay with av|av
 ·exact av
 ·subst av;have:=(x9 l).2 h;rw[this] at hd;cases hd
theorem CI(ay:k≤bn l)(h:k<l.length)(hd:fi l[k]=false):bn l=k:=by
 rcases HS ay with av|av
 ·have:=(x9 l).1 k h av;rw[this] at hd;cases hd
 ·exact av.symm
theorem afr(l:au)(h:∀c∈l,fi c=true):val l<10^l.length:=by
 have key:∀(l:au) (v n:Nat),v<10^n→(∀c∈l,fi c=true)→l.foldl (fun v c=>v *10+(c.toNat-48)) v<10 ^(n+l.length):=by
  intro l
  induction l with
  |nil=>intro v n aY _;simpa using aY
  |cons c l cO=>
   intro v n aY aA;have hc:=(ph c).1 (aA c (by simp));have:=cO (v *10+(c.toNat-48)) (n+1) (by rw[Fg];omega) (fun d hd=>aA d (by simp[hd]));simp only[Fh,fY];rw[show n+(l.length+1)=n+1+l.length by omega];exact this
 have:=key l 0 0 (by simp) h;simpa[val] using this
theorem afs(l:au)(k:Nat)(ay:k≤bn l):∀c∈l.take k,fi c=true:=by
 intro c hc;obtain⟨i,hi,rfl⟩:=List.mem_iff_getElem.1 hc;have AW:i<k∧i<l.length:=by have:=hi;simp at this;omega
 simpa using (x9 l).1 i AW.2 (by omega)
theorem CJ(l:au)(k:Nat)(ay:k≤bn l):val (l.take k)<10^k:=by
 have h:=afr _ (afs l k ay);have aA:=qd l;have:(l.take k).length=k:=by simp;omega
 rwa [this] at h
def strip:au→Bool×List UInt8
 |[]=>(false,[])
 |c::r=>if c.toNat=43 then (false,r) else if c.toNat=45 then (true,r) else (false,c::r)
def wt(l:au):Option Nat:=
 match l.drop (bn l) with
 |[]=>if bn l≤6∧bn l≠0 then some (val l *1000000) else none
 |c::t=>if c.toNat=46∧bn l≤6∧bn t≤6∧bn t=t.length∧bn l+bn t≠0 then some (val (l.take (bn l)) *1000000+val t *10 ^(6-bn t)) else none
def dec(l:au):Option Int:=(wt (strip l).2).map fun n=>if (strip l).1 then -(n:Int) else n
theorem Wl(ay:k=min 6 (bn l))(h:l.drop k=[]):bn l=k∧k=l.length:=by have av:=qd l;have az:l.length≤k:=List.drop_eq_nil_iff.1 h;omega
theorem aft(ay:k=min 6 (bn l))(h:l.drop k=[]):wt l=if k=0 then none else some (val (l.take k) *1000000):=by
 obtain⟨av,az⟩:=Wl ay h;unfold wt;rw[av,h];have aC:l.take k=l:=by rw[az];exact uJ
 rw[aC];by_cases aS:k=0
 ·simp[aS]
 ·have:k≤6:=(by omega);simp[aS,this]
variable{c:UInt8}
theorem afu(ay:k=min 6 (bn l))(h:l.drop k=c::r)(hc:fi c=false):bn l=k:=by
 have aA:k<l.length:=by apply uK;intro hn;rw[List.drop_eq_nil_iff.2 (by omega)] at h;cases h
 have qe:l[k]=c:=by have:=lD aA;rw[h] at this;injection this with a b;exact a.symm
 exact CI (by omega) aA (by rw[qe];exact hc)
theorem afv(ay:k=min 6 (bn l))(h:l.drop k=c::r)(hc:¬c.toNat=46):wt l=none:=by
 unfold wt;by_cases c4:bn l≤6
 ·have:bn l=k:=(by omega);rw[this,h];simp[hc]
 ·split
  ·simp[c4]
  ·simp[c4]
theorem afw{m:Nat}(ay:k=min 6 (bn l))(h:l.drop k=c::r)(hc:c.toNat=46)(hm:m=min 6 (bn r)):
  wt l=if r.drop m=[]∧¬k+m=0 then some (val (l.take k) *1000000+val (r.take m) *10 ^(6-m)) else none:=by
 have hn:=afu ay h ((zh c).2 (by omega));unfold wt;rw[hn,h];simp only;by_cases av:r.drop m=[]
 ·obtain⟨a7,bf⟩:=Wl hm av;have cM:r.take m=r:=(by rw[bf];exact uJ);rw[cM,a7];by_cases az:k+m=0
  ·simp[az]
  ·rw[bb ⟨hc,by omega,by omega,bf,az⟩,bb ⟨av,az⟩]
 ·rw[aW (by rintro⟨_,_,aC,bt,_⟩;apply av;apply List.drop_eq_nil_iff.2;omega),aW (by rintro⟨aC,_⟩;exact av aC)]
def tk(n:Int):Bool:=decide (-1000000000000<n)&&decide (n<1000000000000)
theorem afx(n:Int):tk n=true↔-1000000000000<n∧n<1000000000000:=by simp[tk]
end ig
namespace ig
open Go.Lib (dg nDigits decDigits trimRightB)
def pad(n k:Nat):List UInt8:=(List.range k).map fun t=>dg n (k-1-t)
theorem afy(n k:Nat):(pad n k).length=k:=by simp[pad]
theorem Wm:∀(k n:Nat),n<10^k→1≤k→nDigits n≤k
 |0,_,_,h=>by omega
 |k+1,n,h,_=>by
  by_cases mw:n<10
  ·rw[Lib.nDigits_small mw];omega
  ·rw[Lib.nDigits_big mw];have ay:1≤k:=(by apply uK;intro hn;obtain rfl:k=0:=(by omega);simp at h;omega);have:=Wm k (n/10) (by rw[Fg] at h;omega) ay;omega
theorem afz(l:au)(c:UInt8):(trimRightB l c).length≤l.length:=by unfold trimRightB;rw[x7];have:=(List.dropWhile_suffix (l:=l.reverse) (· ==c)).length_le;simpa using this
theorem afA(l:au):∀v,l.foldl (fun v c=>v *10+(c.toNat-48)) v=v *10^l.length+val l:=by
 induction l with
 |nil=>intro v;simp[val]
 |cons c l cO=>
  intro v;unfold val;simp only[Fh,fY];rw[cO,cO (0 *10+(c.toNat-48)),Fg,Nat.add_mul,Fi,j7,Qm,Nat.mul_comm 10,wo]
theorem afB(a b:au):val (a++b)=val a *10^b.length+val b:=by have:=afA b (val a);rw[←this];unfold val;rw[List.foldl_append]
theorem afC(t:au):bn (46::t)=0:=by rw[L3];rfl
end ig
namespace wu
open ig
structure du where
 r:List UInt8
 ops:List (Int×Int)
 e:Nat
def hd(r:au):UInt8:=r.headD 0
def put(st:du)(k n:Int):du:=if st.e=0 then⟨st.r,st.ops++[(k,n)],0⟩ else st
def q1(D:au):Nat:=D.foldl (fun n c=>min (10 *n+(c.toNat-48)) 100) 0
def kP(st:du):du:=
 if q1 ((st.r.drop 1).take (bn (st.r.drop 1)))<1∨99<q1 ((st.r.drop 1).take (bn (st.r.drop 1)))∨hd (st.r.drop 1)=48 then⟨st.r,st.ops,3⟩
 else⟨(st.r.drop 1).drop (bn (st.r.drop 1)),st.ops++[(2,(q1 ((st.r.drop 1).take (bn (st.r.drop 1))):Int))],0⟩
def nC(r:au):Nat:=if hd (r.drop (bn r))=46 then bn r+1+bn (r.drop (bn r+1)) else bn r
def lb(st:du):du:=
 match dec (st.r.take (nC st.r)) with
 |none=>⟨st.r,st.ops,3⟩
 |some n=>⟨st.r.drop (nC st.r),st.ops++[(1,n)],0⟩
def wv(c:UInt8):Bool:=c==43 || c==45 || c==40
def qf(st:du):du:=if hd st.r=36 then kP st else if (hd st.r==46 || fi (hd st.r))=true then lb st else⟨st.r,st.ops,3⟩
def AX(c:UInt8):Option Nat:=if c=120∨c=88 then some 5 else if c=47 then some 6 else none
def CK(c:UInt8):Option Nat:=if c=43 then some 3 else if c=45 then some 4 else none
def se(op:UInt8→Option Nat)(f:du→du):Nat→du→du
 |0,st=>st
 |k+1,st=>if st.e=0 then (match op (hd st.r) with|none=>st|some q=>se op f k (put (f ⟨st.r.drop 1,st.ops,0⟩) q 0)) else st
def q2(f:du→du)(st:du):du:=se AX f (st.r.length+1) (f st)
def uL(f:du→du)(st:du):du:=se CK (q2 f) (st.r.length+1) (q2 f st)
def tl(st:du):du:=if st.e=0 then (if hd st.r=41 then⟨st.r.drop 1,st.ops,0⟩ else⟨st.r,st.ops,3⟩) else st
def q3(f:du→du)(c:UInt8)(st:du):du:=
 if c=40 then tl (uL f st) else if c=45 then put (f st) 7 0 else f st
def fo:Nat→du→du
 |0,st=>if wv (hd st.r)=true then⟨st.r,st.ops,6⟩ else qf st
 |d+1,st=>if wv (hd st.r)=true then q3 (fo d) (hd st.r) ⟨st.r.drop 1,st.ops,st.e⟩ else qf st
def uM(st:du):Nat:=if st.e=0 then (if st.r=[] then 0 else 3) else st.e
def AY(s:au):du:=uL (fo 30) ⟨s,[],0⟩
def x'(s:au):List (Int×Int)× Nat×Nat:=
 if 300<s.length then ([],0,6) else if uM (AY s)=0 then ((AY s).ops,0,0) else ([],s.length -(AY s).r.length,uM (AY s))
theorem uN(st:du)(k n:Int):(put st k n).r=st.r:=by unfold put;split<;>rfl
theorem afD(st:du):(kP st).r.length≤st.r.length:=by
 unfold kP;split
 ·exact bx _
 ·simp only[fH];omega
theorem afE(st:du):(lb st).r.length≤st.r.length:=by
 unfold lb;split
 ·exact bx _
 ·simp
theorem Wn(st:du):(qf st).r.length≤st.r.length:=by
 unfold qf;split
 ·exact afD st
 ·split
  ·exact afE st
  ·exact bx _
def Down(f:du→du):Prop:=∀st,(f st).r.length≤st.r.length
theorem Qn{op:UInt8→Option Nat}{f:du→du}(hf:Down f):∀k st,(se op f k st).r.length≤st.r.length
 |0,st=>bx _
 |k+1,st=>by
  rw[se];split
  ·split
   ·exact bx _
   ·rename_i q _;have av:=Qn (op:=op) hf k (put (f ⟨st.r.drop 1,st.ops,0⟩) q 0);rw[uN] at av;have az:=hf ⟨st.r.drop 1,st.ops,0⟩;simp only[fH] at az;omega
  ·exact bx _
variable{f:du→du}
theorem HW(hf:Down f):Down (q2 f):=fun st=>dx (Qn hf _ _) (hf st)
theorem afF(hf:Down f):Down (uL f):=fun st=>dx (Qn (HW hf) _ _) (HW hf st)
theorem afG(st:du):(tl st).r.length≤st.r.length:=by
 unfold tl;split
 ·split
  ·simp
  ·exact bx _
 ·exact bx _
theorem afH(hf:Down f)(c:UInt8):Down (q3 f c):=fun st=>by
 unfold q3;split
 ·exact dx (afG _) (afF hf st)
 ·split
  ·rw[uN];exact hf st
  ·exact hf st
theorem AZ:∀d,Down (fo d)
 |0,st=>by
  rw[fo];split
  ·exact bx _
  ·exact Wn st
 |d+1,st=>by
  rw[fo];split
  ·have:=afH (AZ d) (hd st.r) ⟨st.r.drop 1,st.ops,st.e⟩;simp only[fH] at this;omega
  ·exact Wn st
variable{st:du}
theorem afI{op:UInt8→Option Nat}(k:Nat)(h:st.e=0→op (hd st.r)=none):se op f k st=st:=by
 cases k with
 |zero=>rfl
 |succ k=>
  rw[se];split
  ·rename_i he;rw[h he]
  ·rfl
theorem afJ{op:UInt8→Option Nat}(k:Nat){q:Nat}(he:st.e=0)(h:op (hd st.r)=some q):se op f (k+1) st=se op f k (put (f ⟨st.r.drop 1,st.ops,0⟩) q 0):=by rw[se,bb he,h]
theorem Wo{op:UInt8→Option Nat}(aS:op 0=none){r:au}{q:Nat}(h:op (hd r)=some q):r≠[]:=by rintro rfl;rw[show hd []=0 from rfl,aS] at h;cases h
inductive T where
 |num (n:Nat)
 |var (n:Nat)
 |neg (t:T)
 |bin (k:Nat) (a b:T)
def NumLit(u:au):Prop:=u≠[]∧((∀c∈u,fi c=true)∨∃D F,u=D++46::F∧(∀c∈D,fi c=true)∧∀c∈F,fi c=true)
inductive G:Nat→Nat→au→T→Prop where
 |num {d:Nat} {u:au} {n:Nat}:NumLit u→dec u=some (n:Int)→G 0 d u (.num n)
 |var {d:Nat} {u:au} {n:Nat}:(∀c∈u,fi c=true)→q1 u=n→1≤n→n≤99→hd u≠48→G 0 d (36::u) (.var n)
 |plus {d:Nat} {u:au} {t:T}:G 0 d u t→G 0 (d+1) (43::u) t
 |neg {d:Nat} {u:au} {t:T}:G 0 d u t→G 0 (d+1) (45::u) (.neg t)
 |par {d:Nat} {u:au} {t:T}:G 2 d u t→G 0 (d+1) (40::(u++[41])) t
 |avq {d:Nat} {u:au} {t:T}:G 0 d u t→G 1 d u t
 |pop {d:Nat} {u v:au} {c:UInt8} {k:Nat} {a b:T}:G 1 d u a→G 0 d v b→AX c=some k→G 1 d (u++c::v) (.bin k a b)
 |avr {d:Nat} {u:au} {t:T}:G 1 d u t→G 2 d u t
 |avs {d:Nat} {u v:au} {c:UInt8} {k:Nat} {a b:T}:G 2 d u a→G 1 d v b→CK c=some k→G 2 d (u++c::v) (.bin k a b)
end wu
namespace wu
open ig
open Go.Lib (decDigits nDigits)
variable{r:au}
theorem afK(h:hd r=46∨fi (hd r)=true):0<nC r:=by
 unfold nC;cases r with
 |nil=>rcases h with h|h<;>(revert h;decide)
 |cons c r=>
  by_cases ih:fi c=true
  ·have:0<bn (c::r):=(by rw[L3,bb ih];omega);split<;>omega
  ·have kQ:c=46:=by
    rcases h with h|h
    ·exact h
    ·exact absurd h ih
   subst kQ;have:bn (46::r)=0:=afC r;rw[this];rw[bb (show hd (List.drop 0 (46::r))=46 from rfl)];omega
theorem Qo{c:UInt8}(h:wv c=true):c=43∨c=45∨c=40:=by
 unfold wv at h;simp at h;rcases h with (h|h)|h
 ·exact .inl h
 ·exact .inr (.inl h)
 ·exact .inr (.inr h)
def A0(f:du→du):Prop:=∀st,(f st).ops.length+(f st).r.length≤st.ops.length+st.r.length
theorem Qp(st:du)(k n:Int):(put st k n).ops.length≤st.ops.length+1:=by
 unfold put;split
 ·simp
 ·omega
theorem Wp(st:du):(qf st).ops.length+(qf st).r.length≤st.ops.length+st.r.length:=by
 unfold qf;split
 ·rename_i pj;have hne:st.r≠[]:=(by intro e;rw[e] at pj;exact absurd pj (by decide));have hp:=List.length_pos_iff.2 hne;unfold kP;split
  ·exact bx _
  ·simp only[iv,fY,tj,fH];omega
 ·split
  ·rename_i hn;have Qq:hd st.r=46∨fi (hd st.r)=true:=(by simpa using hn);have hp:=afK Qq;have hne:st.r≠[]:=by intro e;rw[e] at Qq;rcases Qq with h|h<;>exact absurd h (by decide)
   have aA:=List.length_pos_iff.2 hne;unfold lb;split
   ·exact bx _
   ·simp only[iv,fY,tj,fH];omega
  ·exact bx _
theorem Qr{op:UInt8→Option Nat}(aS:op 0=none){f:du→du}(hf:A0 f):∀k st,(se op f k st).ops.length+(se op f k st).r.length≤st.ops.length+st.r.length
 |0,st=>bx _
 |k+1,st=>by
  rw[se];split
  ·split
   ·exact bx _
   ·rename_i q aR;have hp:=List.length_pos_iff.2 (Wo aS aR);have av:=Qr aS hf k (put (f ⟨st.r.drop 1,st.ops,0⟩) q 0);have az:=Qp (f ⟨st.r.drop 1,st.ops,0⟩) q 0;have aC:=hf ⟨st.r.drop 1,st.ops,0⟩;rw[uN] at av;simp only[fH] at aC;omega
  ·exact bx _
variable{f:du→du}
theorem CL(hf:A0 f):A0 (q2 f):=fun st=>dx (Qr rfl hf _ _) (hf st)
theorem afL(hf:A0 f):A0 (uL f):=fun st=>dx (Qr rfl (CL hf) _ _) (CL hf st)
theorem afM(st:du):(tl st).ops.length+(tl st).r.length≤st.ops.length+st.r.length:=by
 unfold tl;split
 ·split
  ·simp only[fH];omega
  ·exact bx _
 ·exact bx _
theorem afN(hf:A0 f)(c:UInt8)(st:du):(q3 f c st).ops.length+(q3 f c st).r.length≤st.ops.length+st.r.length+1:=by
 unfold q3;split
 ·exact dx (dx (afM _) (afL hf st)) (mv _)
 ·split
  ·rw[uN];have av:=Qp (f st) 7 0;have az:=hf st;omega
  ·exact dx (hf st) (mv _)
theorem Wq(h:wv (hd r)=true):r≠[]:=by intro e;rw[e] at h;exact absurd h (by decide)
theorem sf:∀d,A0 (fo d)
 |0,st=>by
  rw[fo];split
  ·exact bx _
  ·exact Wp st
 |d+1,st=>by
  rw[fo];split
  ·rename_i hs;have av:=afN (sf d) (hd st.r) ⟨st.r.drop 1,st.ops,st.e⟩;have az:=List.length_pos_iff.2 (Wq hs);simp only[fH] at av;omega
  ·exact Wp st
end wu
namespace zi
open ig
open Go.Lib (decDigits)
structure D where
 k:Int
 n:Int
 on:Bool
 t:List UInt8
 x:List UInt8
 y:List UInt8
 u:List UInt8
 v:List UInt8
 bX:List Int
deriving DecidableEq
def Qs:D:=⟨0,0,false,[],[],[],[],[],[]⟩
def fI(k:Int):D:={Qs with k:=k}
def ya(c:UInt8):Bool:=c==43 || c==45 || c==46 || fi c
def wx(s:au):Nat:=(s.takeWhile ya).length
def bare:au→List UInt8
 |[]=>[]
 |c::r=>if c=43∨c=45 then r else c::r
def Fj(c:au):Bool:=
 if (c.contains 46)=true then (dec c).isSome else (bare c).all fi&&(decide (1≤(bare c).length)&&decide ((bare c).length≤12))
def hH(s:au)(l:UInt8):List UInt8×List UInt8×Bool:=match s with
 |[]=>([],[],true)
 |c::r=>if c=l then (r.take (wx r),r.drop (wx r),Fj (r.take (wx r))) else ([],c::r,true)
def L4(s:au):Option (List UInt8×List UInt8×List UInt8):=
 if (hH s 88).2.2=true∧(hH (hH s 88).2.1 89).2.2=true∧¬((hH s 88).1=[]∧(hH (hH s 88).2.1 89).1=[]) then
  some ((hH s 88).1,(hH (hH s 88).2.1 89).1,(hH (hH s 88).2.1 89).2.1) else none
def Fk(s:au)(b5:Nat):Option (Nat×List UInt8):=
 if bn s=0∨s.headD 0=48∨b5<val (s.take (bn s)) then none else some (val (s.take (bn s)),s.drop (bn s))
def afO(s:au):Option D:=
 if s=[48] then some (fI 6) else match Fk s 99 with
 |none=>none
 |some (n,[])=>some {fI 6 with n:=n}
 | some (n,c :: r)=>if c=67 then (match dec r with
  |none=>none
  |some v=>some {fI 4 with n:=n,bX:=[v]}) else none
def afP(s:au):Option D:=match Fk s 9999 with
 |none=>none
 |some (n,r)=>match L4 r with
  |some (x,y,[])=>some {fI 12 with n:=n,x:=x,y:=y}
  |_=>none
def Wr(k:Int)(s:au):Option D:=match L4 s with
 |some (x,y,[])=>some {fI k with x:=x,y:=y}
 |_=>none
def Qt(s:au):Option D:=match s with
 |71::48::48::r=>Wr 9 r
 |71::48::49::r=>Wr 11 r
 |_=>none
def afQ(s:au):Option D:=match L4 s with
 |none=>none
 |some (x,y,[])=>some {fI 7 with x:=x,y:=y}
 | some (x,y,71 :: 56 :: 53 :: r)=>(match L4 r with
  |some (u,v,[])=>some {fI 8 with x:=x,y:=y,u:=u,v:=v}
  |_=>none)
 |some _=>none
def fixed:List (List UInt8×D):=
  [([77,52,56],fI 2),([37],fI 5),([77,49,53],{fI 10 with on:=true}),([77,49,54],fI 10),([71,48,53],fI 13),([71,57,48],fI 14),([77,51,48],fI 15),
   ([77,69,84,82,73,67],{fI 3 with n:=1}),([77,69,84,82,73,67,44,76,90],{fI 3 with n:=1}),([77,69,84,82,73,67,44,84,90],{fI 3 with n:=1,on:=true}),
   ([73,78,67,72],{fI 3 with n:=2}),([73,78,67,72,44,76,90],{fI 3 with n:=2}),([73,78,67,72,44,84,90],{fI 3 with n:=2,on:=true})]
def afR(s:au):Option D:=match s with
 |59::r=>some {fI 1 with t:=r}
 |84::r=>afO r
 |82::r=>afP r
 |71::r=>Qt (71::r)
 |_=>afQ s
def yb(s:au):Option D:=match fixed.lookup s with
 |some d=>some d
 |none=>afR s
def L5(c:UInt8):Bool:=decide (32≤c.toNat)&&decide (c.toNat≤126)
def tm(c:UInt8):Bool:=c==13 ||(c==10 || L5 c)
def CM(s:au):Nat:=s.count 10+(if s≠[]∧s.getLast?≠some 10 then 1 else 0)
def fZ(s:au):List UInt8:=s.takeWhile (· !=10)
def q4(s:au):Nat:=(s.takeWhile (· ==13)).length
def qg:Nat→au→Nat→List (Nat×D)→List (Nat×D)× Nat×Nat
 |0,_,_,acc=>(acc,0,0)
 |k+1,r,o,acc=>
  if r=[] then (acc,0,0)
  else if q4 (fZ r)=(fZ r).length then qg k (r.drop ((fZ r).length+1)) (o+(fZ r).length+1) acc
  else match yb ((fZ r).filter (· !=13)) with
   |none=>([],o+q4 (fZ r),3)
   |some d=>qg k (r.drop ((fZ r).length+1)) (o+(fZ r).length+1) (acc++[(o+q4 (fZ r),d)])
def Qu(s:au):List (Nat×D)× Nat×Nat:=
 if 1000000<s.length∨20000<CM s then ([],0,6)
 else if (s.takeWhile tm).length<s.length then ([],(s.takeWhile tm).length,2)
 else qg s.length s 0 []
def sp(p:UInt8→Bool)(l:au):Nat:=(l.takeWhile p).length
theorem afS(p:UInt8→Bool)(c:UInt8)(l:au):sp p (c::l)=if p c=true then sp p l+1 else 0:=by unfold sp;rw[Ql];split<;>simp
theorem Ws(p:UInt8→Bool)(l:au):sp p l≤l.length:=(Wg p).length_le
theorem L6(p:UInt8→Bool)(l:au):(∀k (h:k<l.length),k<sp p l→p l[k]=true)∧(∀h:sp p l<l.length,p l[sp p l]=false):=by
 induction l with
 |nil=>simp[sp]
 |cons c l cO=>
  rw[afS];by_cases hc:p c=true
  ·rw[bb hc];refine⟨fun k h ay=>?_,fun h=>?_⟩
   ·cases k with
    |zero=>simpa using hc
    |succ k=>simpa using cO.1 k (by simpa using h) (by omega)
   ·simpa using cO.2 (by simpa using h)
  ·rw[aW hc];exact⟨fun k h ay=>by omega,fun h=>by simpa using hc⟩
variable{l:au}
theorem Wt{p:UInt8→Bool}{k:Nat}(ay:k≤sp p l)(h:k<l.length)(hd:p l[k]=true):k<sp p l:=by
 rcases HS ay with av|av
 ·exact av
 ·subst av;have:=(L6 p l).2 h;rw[this] at hd;cases hd
theorem Wu{p:UInt8→Bool}{k:Nat}(ay:k≤sp p l)(h:k<l.length)(hd:p l[k]=false):sp p l=k:=by
 rcases HS ay with av|av
 ·have:=(L6 p l).1 k h av;rw[this] at hd;cases hd
 ·exact av.symm
theorem Wv(s:au):wx s=sp ya s:=rfl
theorem Qv(s:au):q4 s=sp (· ==13) s:=rfl
theorem afU:∀n:Fin 256,decide (0≤Lib.indexByte [43,45,46,48,49,50,51,52,53,54,55,56,57] (UInt8.ofNat n.val))=ya (UInt8.ofNat n.val):=by decide+kernel
theorem afV(c:UInt8):decide (0≤Lib.indexByte [43,45,46,48,49,50,51,52,53,54,55,56,57] c)=ya c:=by have:=afU ⟨c.toNat,c.toNat_lt⟩;simpa using this
end zi
namespace kR
open Go.RowKit
def pM(w:aeo):Prop:=Lib.TabIs Tryz.prog w "internal/strconv.uint64pow10" .u64 Lib.pow10Tab
theorem Ww:Tryz.prog.globalNamed "internal/strconv.uint64pow10" =some 5:=by kernel_rfl
variable{w:aeo}
theorem pM.below{w':aeo}(h:pM w)(ax:ao w w w'):pM w':=by
 unfold pM Lib.TabIs at h⊢;have bR:5<w.heap.size:=by unfold World.var? at h;simp only[Ww,Option.bind_some] at h;apply uK;intro hn;have:w.heap[5]?=none:=(by rw[Wh];omega);rw[this] at h;simp at h
 exact var?_below ax Ww bR h
theorem pM.of_heap{w':aeo}(h:pM w)(aK:w'.heap=w.heap):pM w':=by unfold pM Lib.TabIs World.var? at h⊢;rw[aK];exact h
theorem pM.drewN{w:aeo}(h:pM w)(n:Nat):pM (w.drewN n):=h.of_heap rfl
theorem pM.drew{w:aeo}(h:pM w):pM w.drew:=h.of_heap rfl
theorem pM.alloc{w:aeo}(h:pM w)(o:Obj):pM (w.alloc o):=h.below ((Below.refl _ _).alloc (bx _) _)
theorem below_drewN{B:Nat}{a:aeo}(h:Below B a w)(n:Nat):Below B a (w.drewN n):=⟨h.os,h.tape,h.output,h.size,h.block⟩
theorem hY{a b:Ua}(h:a.data.toList=b.data.toList):a=b:=by cases a;cases b;simp only[ByteArray.mk.injEq];exact Array.toList_inj.1 h
theorem cb(s:Ua):s.data.toList.length=s.size:=by simp
theorem jP(s:Ua)(k:Nat):(s.extract k s.size).data.toList=s.data.toList.drop k:=by rw[x8];exact wq (by simp)
theorem jQ(l:au):∃S:Ua,S.data.toList=l:=⟨⟨l.toArray⟩,rfl⟩
end kR
