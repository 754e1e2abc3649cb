/-
  Several texts of this proof in one: K1, Va, Vf, Vg.
-/
import Derived.Lib.ItoaLen
import Derived.Lib.TrimByte
import Derived.Below
import Derived.Laws.OwnMore
import Derived.Test.YtfldplmgkeiimaaGreatDoorProg
import Derived.WalkKit
import Derived.WalkSpells
import Derived.WalkLawsBesides
import Derived.Lib.Hide
import Derived.Deep.DeepCutAuto
import Derived.Deep.CutRange
import Derived.BigQuiet
import Derived.Deep.QuietTactic
import Derived.Outline
set_option linter.unusedVariables false
set_option linter.unusedSimpArgs false
namespace Go.Proofs.YtfldplmgkeiimaaGreatDoor.Dp
def isD (c:UInt8):Bool:=decide (48≤c.toNat) && decide (c.toNat≤57)
def nd (l:List UInt8):Nat:=(l.takeWhile isD).length
def val (l:List UInt8):Nat:=l.foldl (fun v c=>v *10+(c.toNat - 48)) 0
theorem isD_iff (c:UInt8):isD c=true↔48≤c.toNat∧c.toNat≤57:=by simp [isD]
theorem isD_false (c:UInt8):isD c=false↔c.toNat < 48∨57 < c.toNat:=by
 rw [Bool.eq_false_iff,Ne,isD_iff];omega
theorem val_snoc (l:List UInt8) (c:UInt8):val (l++ [c])=val l *10+(c.toNat - 48):=by simp [val]
theorem nd_cons (c:UInt8) (l:List UInt8):nd (c :: l)=if isD c then nd l+1 else 0:=by
 unfold nd;rw [List.takeWhile_cons];split <;> simp
theorem nd_le (l:List UInt8):nd l≤l.length:=by
 unfold nd;induction l with
 | nil=>simp
 | cons c l ih=>rw [List.takeWhile_cons];split <;> simp;omega
theorem nd_spec (l:List UInt8):(∀k (h:k < l.length),k < nd l→isD l[k]=true)∧(∀h:nd l < l.length,isD l[nd l]=false):=by
 induction l with
 | nil=>simp [nd]
 | cons c l ih=>
  rw [nd_cons]
  by_cases hc:isD c=true
  ·rw [if_pos hc]
   refine ⟨fun k h hk=>?_,fun h=>?_⟩
   ·cases k with
    | zero=>simpa using hc
    | succ k=>simpa using ih.1 k (by simpa using h) (by omega)
   ·simpa using ih.2 (by simpa using h)
  ·rw [if_neg hc]
   exact ⟨fun k h hk=>by omega,fun h=>by simpa using hc⟩
theorem nd_lt {l:List UInt8} {k:Nat} (hk:k≤nd l) (h:k < l.length) (hd:isD l[k]=true):k < nd l:=by
 rcases Nat.lt_or_eq_of_le hk with h1 | h1
 ·exact h1
 ·subst h1
  have:=(nd_spec l).2 h
  rw [this] at hd;cases hd
theorem nd_stop {l:List UInt8} {k:Nat} (hk:k≤nd l) (h:k < l.length) (hd:isD l[k]=false):nd l=k:=by
 rcases Nat.lt_or_eq_of_le hk with h1 | h1
 ·have:=(nd_spec l).1 k h h1
  rw [this] at hd;cases hd
 ·exact h1.symm
theorem val_lt (l:List UInt8) (h:∀c∈l,isD c=true):val l < 10 ^ l.length:=by
 have key:∀(l:List UInt8) (v n:Nat),v < 10 ^ n→(∀c∈l,isD c=true)→l.foldl (fun v c=>v *10+(c.toNat - 48)) v < 10 ^(n+l.length):=by
  intro l
  induction l with
  | nil=>intro v n hv _;simpa using hv
  | cons c l ih=>
   intro v n hv hl
   have hc:=(isD_iff c).1 (hl c (by simp))
   have:=ih (v *10+(c.toNat - 48)) (n+1) (by rw [Nat.pow_succ];omega) (fun d hd=>hl d (by simp [hd]))
   simp only [List.foldl_cons,List.length_cons]
   rw [show n+(l.length+1)=n+1+l.length by omega]
   exact this
 have:=key l 0 0 (by simp) h
 simpa [val] using this
theorem take_nd (l:List UInt8) (k:Nat) (hk:k≤nd l):∀c∈l.take k,isD c=true:=by
 intro c hc
 obtain ⟨i,hi,rfl⟩:=List.mem_iff_getElem.1 hc
 have hi':i < k∧i < l.length:=by have:=hi;simp at this;omega
 simpa using (nd_spec l).1 i hi'.2 (by omega)
theorem val_take_lt (l:List UInt8) (k:Nat) (hk:k≤nd l):val (l.take k)< 10 ^ k:=by
 have h:=val_lt _ (take_nd l k hk)
 have hl:=nd_le l
 have:(l.take k).length=k:=by simp;omega
 rwa [this] at h
def strip:List UInt8→Bool × List UInt8
 | []=>(false, [])
 | c :: r=>if c.toNat=43 then (false,r) else if c.toNat=45 then (true,r) else (false,c :: r)
def decU (l:List UInt8):Option Nat:=
 match l.drop (nd l) with
 | []=>if nd l≤6∧nd l≠0 then some (val l *1000000) else none
 | c :: t=>if c.toNat=46∧nd l≤6∧nd t≤6∧nd t=t.length∧nd l+nd t≠0 then some (val (l.take (nd l)) *1000000+val t *10 ^(6 - nd t)) else none
def dec (l:List UInt8):Option Int:=(decU (strip l).2).map fun n=>if (strip l).1 then -(n:Int) else n
theorem nd_of_drop_nil {l:List UInt8} {k:Nat} (hk:k=min 6 (nd l)) (h:l.drop k= []):nd l=k∧k=l.length:=by
 have h1:=nd_le l
 have h2:l.length≤k:=List.drop_eq_nil_iff.1 h
 omega
theorem decU_A {l:List UInt8} {k:Nat} (hk:k=min 6 (nd l)) (h:l.drop k= []):decU l=if k=0 then none else some (val (l.take k) *1000000):=by
 obtain ⟨h1,h2⟩:=nd_of_drop_nil hk h
 unfold decU
 rw [h1,h]
 have h3:l.take k=l:=by rw [h2];exact List.take_length
 rw [h3]
 by_cases h0:k=0
 ·simp [h0]
 ·have:k≤6:=by omega
  simp [h0,this]
theorem nd_of_drop_cons {l r:List UInt8} {k:Nat} {c:UInt8} (hk:k=min 6 (nd l)) (h:l.drop k=c :: r) (hc:isD c=false):nd l=k:=by
 have hl:k < l.length:=by
  apply Classical.byContradiction;intro hn
  rw [List.drop_eq_nil_iff.2 (by omega)] at h;cases h
 have hc':l[k]=c:=by
  have:=List.drop_eq_getElem_cons hl
  rw [h] at this
  injection this with a b;exact a.symm
 exact nd_stop (by omega) hl (by rw [hc'];exact hc)
theorem decU_B {l r:List UInt8} {k:Nat} {c:UInt8} (hk:k=min 6 (nd l)) (h:l.drop k=c :: r) (hc:¬c.toNat=46):decU l=none:=by
 unfold decU
 by_cases h6:nd l≤6
 ·have:nd l=k:=by omega
  rw [this,h]
  simp [hc]
 ·split
  ·simp [h6]
  ·simp [h6]
theorem decU_D {l r:List UInt8} {k m:Nat} {c:UInt8} (hk:k=min 6 (nd l)) (h:l.drop k=c :: r) (hc:c.toNat=46) (hm:m=min 6 (nd r)):
  decU l=if r.drop m= []∧¬k+m=0 then some (val (l.take k) *1000000+val (r.take m) *10 ^(6 - m)) else none:=by
 have hn:=nd_of_drop_cons hk h ((isD_false c).2 (by omega))
 unfold decU
 rw [hn,h]
 simp only
 by_cases h1:r.drop m= []
 ·obtain ⟨e1,e2⟩:=nd_of_drop_nil hm h1
  have e3:r.take m=r:=by rw [e2];exact List.take_length
  rw [e3,e1]
  by_cases h2:k+m=0
  ·simp [h2]
  ·rw [if_pos ⟨hc,by omega,by omega,e2,h2⟩,if_pos ⟨h1,h2⟩]
 ·rw [if_neg (by
   rintro ⟨_,_,h3,h4,_⟩
   apply h1
   apply List.drop_eq_nil_iff.2
   omega),if_neg (by rintro ⟨h3,_⟩;exact h1 h3)]
def okN (n:Int):Bool:=decide (-1000000000000 < n) && decide (n < 1000000000000)
theorem okN_iff (n:Int):okN n=true↔-1000000000000 < n∧n < 1000000000000:=by simp [okN]
end Go.Proofs.YtfldplmgkeiimaaGreatDoor.Dp
namespace Go.Proofs.YtfldplmgkeiimaaGreatDoor.Dp
open Go.Lib (dg nDigits decDigits trimRightB)
def pad (n k:Nat):List UInt8:=(List.range k).map fun t=>dg n (k - 1 - t)
theorem pad_length (n k:Nat):(pad n k).length=k:=by simp [pad]
theorem nDigits_le_of_lt:∀(k n:Nat),n < 10 ^ k→1≤k→nDigits n≤k
 | 0,_,_,h=>by omega
 | k+1,n,h,_=>by
  by_cases h10:n < 10
  ·rw [Lib.nDigits_small h10];omega
  ·rw [Lib.nDigits_big h10]
   have hk:1≤k:=by
    apply Classical.byContradiction;intro hn
    obtain rfl:k=0:=by omega
    simp at h;omega
   have:=nDigits_le_of_lt k (n / 10) (by rw [Nat.pow_succ] at h;omega) hk
   omega
theorem trimRightB_length (l:List UInt8) (c:UInt8):(trimRightB l c).length≤l.length:=by
 unfold trimRightB
 rw [List.length_reverse]
 have:=(List.dropWhile_suffix (l:=l.reverse) (· ==c)).length_le
 simpa using this
end Go.Proofs.YtfldplmgkeiimaaGreatDoor.Dp
namespace Go.Proofs.YtfldplmgkeiimaaGreatDoor.Dp
open Go.Lib (dg nDigits decDigits trimRightB)
theorem nd_point (t:List UInt8):nd (46 :: t)=0:=by rw [nd_cons];rfl
end Go.Proofs.YtfldplmgkeiimaaGreatDoor.Dp
namespace Go.Proofs.YtfldplmgkeiimaaGreatDoor.Ep
open Go.Proofs.YtfldplmgkeiimaaGreatDoor.Dp
structure St where
 r:List UInt8
 ops:List (Int × Int)
 e:Nat
def hd (r:List UInt8):UInt8:=r.headD 0
def put (st:St) (k n:Int):St:=if st.e=0 then ⟨st.r,st.ops++ [(k,n)],0⟩ else st
def varN (D:List UInt8):Nat:=D.foldl (fun n c=>min (10 *n+(c.toNat - 48)) 100) 0
def varV (st:St):St:=
 if varN ((st.r.drop 1).take (nd (st.r.drop 1)))< 1∨99 < varN ((st.r.drop 1).take (nd (st.r.drop 1)))∨hd (st.r.drop 1)=48 then ⟨st.r,st.ops,3⟩
 else ⟨(st.r.drop 1).drop (nd (st.r.drop 1)),st.ops++ [(2,(varN ((st.r.drop 1).take (nd (st.r.drop 1))):Int))],0⟩
def numLen (r:List UInt8):Nat:=if hd (r.drop (nd r))=46 then nd r+1+nd (r.drop (nd r+1)) else nd r
def numV (st:St):St:=
 match dec (st.r.take (numLen st.r)) with
 | none=>⟨st.r,st.ops,3⟩
 | some n=>⟨st.r.drop (numLen st.r),st.ops++ [(1,n)],0⟩
def isSign (c:UInt8):Bool:=c==43 || c==45 || c==40
def leafV (st:St):St:=if hd st.r=36 then varV st else if (hd st.r==46 || isD (hd st.r))=true then numV st else ⟨st.r,st.ops,3⟩
def opP (c:UInt8):Option Nat:=if c=120∨c=88 then some 5 else if c=47 then some 6 else none
def opS (c:UInt8):Option Nat:=if c=43 then some 3 else if c=45 then some 4 else none
def loopV (op:UInt8→Option Nat) (f:St→St):Nat→St→St
 | 0,st=>st
 | k+1,st=>if st.e=0 then (match op (hd st.r) with | none=>st | some q=>loopV op f k (put (f ⟨st.r.drop 1,st.ops,0⟩) q 0)) else st
def prodV (f:St→St) (st:St):St:=loopV opP f (st.r.length+1) (f st)
def sumV (f:St→St) (st:St):St:=loopV opS (prodV f) (st.r.length+1) (prodV f st)
def shutV (st:St):St:=if st.e=0 then (if hd st.r=41 then ⟨st.r.drop 1,st.ops,0⟩ else ⟨st.r,st.ops,3⟩) else st
def innerV (f:St→St) (c:UInt8) (st:St):St:=
 if c=40 then shutV (sumV f st) else if c=45 then put (f st) 7 0 else f st
def factorV:Nat→St→St
 | 0,st=>if isSign (hd st.r)=true then ⟨st.r,st.ops,6⟩ else leafV st
 | d+1,st=>if isSign (hd st.r)=true then innerV (factorV d) (hd st.r) ⟨st.r.drop 1,st.ops,st.e⟩ else leafV st
def endV (st:St):Nat:=if st.e=0 then (if st.r= [] then 0 else 3) else st.e
def runV (s:List UInt8):St:=sumV (factorV 30) ⟨s, [],0⟩
def parseV (s:List UInt8):List (Int × Int)× Nat × Nat:=
 if 300 < s.length then ([],0,6) else if endV (runV s)=0 then ((runV s).ops,0,0) else ([],s.length -(runV s).r.length,endV (runV s))
theorem put_r (st:St) (k n:Int):(put st k n).r=st.r:=by unfold put;split <;> rfl
theorem varV_le (st:St):(varV st).r.length≤st.r.length:=by
 unfold varV;split
 ·exact Nat.le_refl _
 ·simp only [List.length_drop];omega
theorem numV_le (st:St):(numV st).r.length≤st.r.length:=by
 unfold numV;split
 ·exact Nat.le_refl _
 ·simp
theorem leafV_le (st:St):(leafV st).r.length≤st.r.length:=by
 unfold leafV;split
 ·exact varV_le st
 ·split
  ·exact numV_le st
  ·exact Nat.le_refl _
def Down (f:St→St):Prop:=∀st,(f st).r.length≤st.r.length
theorem loopV_le {op:UInt8→Option Nat} {f:St→St} (hf:Down f):∀k st,(loopV op f k st).r.length≤st.r.length
 | 0,st=>Nat.le_refl _
 | k+1,st=>by
  rw [loopV]
  split
  ·split
   ·exact Nat.le_refl _
   ·rename_i q _
    have h1:=loopV_le (op:=op) hf k (put (f ⟨st.r.drop 1,st.ops,0⟩) q 0)
    rw [put_r] at h1
    have h2:=hf ⟨st.r.drop 1,st.ops,0⟩
    simp only [List.length_drop] at h2
    omega
  ·exact Nat.le_refl _
theorem prodV_le {f:St→St} (hf:Down f):Down (prodV f):=fun st=>Nat.le_trans (loopV_le hf _ _) (hf st)
theorem sumV_le {f:St→St} (hf:Down f):Down (sumV f):=fun st=>Nat.le_trans (loopV_le (prodV_le hf) _ _) (prodV_le hf st)
theorem shutV_le (st:St):(shutV st).r.length≤st.r.length:=by
 unfold shutV;split
 ·split
  ·simp
  ·exact Nat.le_refl _
 ·exact Nat.le_refl _
theorem innerV_le {f:St→St} (hf:Down f) (c:UInt8):Down (innerV f c):=fun st=>by
 unfold innerV;split
 ·exact Nat.le_trans (shutV_le _) (sumV_le hf st)
 ·split
  ·rw [put_r];exact hf st
  ·exact hf st
theorem factorV_le:∀d,Down (factorV d)
 | 0,st=>by
  rw [factorV];split
  ·exact Nat.le_refl _
  ·exact leafV_le st
 | d+1,st=>by
  rw [factorV];split
  ·have:=innerV_le (factorV_le d) (hd st.r) ⟨st.r.drop 1,st.ops,st.e⟩
   simp only [List.length_drop] at this;omega
  ·exact leafV_le st
theorem loop_stop {op:UInt8→Option Nat} {f:St→St} (k:Nat) {st:St} (h:st.e=0→op (hd st.r)=none):loopV op f k st=st:=by
 cases k with
 | zero=>rfl
 | succ k=>
  rw [loopV]
  split
  ·rename_i he
   rw [h he]
  ·rfl
theorem loop_step {op:UInt8→Option Nat} {f:St→St} (k:Nat) {st:St} {q:Nat} (he:st.e=0) (h:op (hd st.r)=some q):loopV op f (k+1) st=loopV op f k (put (f ⟨st.r.drop 1,st.ops,0⟩) q 0):=by
 rw [loopV,if_pos he,h]
theorem op_ne {op:UInt8→Option Nat} (h0:op 0=none) {r:List UInt8} {q:Nat} (h:op (hd r)=some q):r≠ []:=by
 rintro rfl
 rw [show hd []=0 from rfl,h0] at h;cases h
inductive T where
 | num (n:Nat)
 | var (n:Nat)
 | neg (t:T)
 | bin (k:Nat) (a b:T)
def NumLit (u:List UInt8):Prop:=u≠ []∧((∀c∈u,isD c=true)∨∃D F,u=D++46 :: F∧(∀c∈D,isD c=true)∧∀c∈F,isD c=true)
inductive G:Nat→Nat→List UInt8→T→Prop where
 | num {d:Nat} {u:List UInt8} {n:Nat}:NumLit u→dec u=some (n:Int)→G 0 d u (.num n)
 | var {d:Nat} {u:List UInt8} {n:Nat}:(∀c∈u,isD c=true)→varN u=n→1≤n→n≤99→hd u≠48→G 0 d (36 :: u) (.var n)
 | plus {d:Nat} {u:List UInt8} {t:T}:G 0 d u t→G 0 (d+1) (43 :: u) t
 | neg {d:Nat} {u:List UInt8} {t:T}:G 0 d u t→G 0 (d+1) (45 :: u) (.neg t)
 | par {d:Nat} {u:List UInt8} {t:T}:G 2 d u t→G 0 (d+1) (40 ::(u++ [41])) t
 | pone {d:Nat} {u:List UInt8} {t:T}:G 0 d u t→G 1 d u t
 | pop {d:Nat} {u v:List UInt8} {c:UInt8} {k:Nat} {a b:T}:G 1 d u a→G 0 d v b→opP c=some k→G 1 d (u++c :: v) (.bin k a b)
 | sone {d:Nat} {u:List UInt8} {t:T}:G 1 d u t→G 2 d u t
 | sop {d:Nat} {u v:List UInt8} {c:UInt8} {k:Nat} {a b:T}:G 2 d u a→G 1 d v b→opS c=some k→G 2 d (u++c :: v) (.bin k a b)
end Go.Proofs.YtfldplmgkeiimaaGreatDoor.Ep
namespace Go.Proofs.YtfldplmgkeiimaaGreatDoor.Ep
open Go.Proofs.YtfldplmgkeiimaaGreatDoor.Dp
open Go.Lib (decDigits nDigits)
theorem numLen_pos {r:List UInt8} (h:hd r=46∨isD (hd r)=true):0 < numLen r:=by
 unfold numLen
 cases r with
 | nil=>rcases h with h | h <;>(revert h;decide)
 | cons c r=>
  by_cases hd1:isD c=true
  ·have:0 < nd (c :: r):=by rw [nd_cons,if_pos hd1];omega
   split <;> omega
  ·have h46:c=46:=by
    rcases h with h | h
    ·exact h
    ·exact absurd h hd1
   subst h46
   have:nd (46 :: r)=0:=nd_point r
   rw [this]
   rw [if_pos (show hd (List.drop 0 (46 :: r))=46 from rfl)]
   omega
theorem sign_cases {c:UInt8} (h:isSign c=true):c=43∨c=45∨c=40:=by
 unfold isSign at h
 simp at h
 rcases h with (h | h)| h
 ·exact .inl h
 ·exact .inr (.inl h)
 ·exact .inr (.inr h)
end Go.Proofs.YtfldplmgkeiimaaGreatDoor.Ep
namespace Go.Proofs.YtfldplmgkeiimaaGreatDoor.Ep
open Go.Proofs.YtfldplmgkeiimaaGreatDoor.Dp
def Cnt (f:St→St):Prop:=∀st,(f st).ops.length+(f st).r.length≤st.ops.length+st.r.length
theorem put_len (st:St) (k n:Int):(put st k n).ops.length≤st.ops.length+1:=by
 unfold put;split
 ·simp
 ·omega
theorem leaf_cnt (st:St):(leafV st).ops.length+(leafV st).r.length≤st.ops.length+st.r.length:=by
 unfold leafV
 split
 ·rename_i h36
  have hne:st.r≠ []:=by intro e;rw [e] at h36;exact absurd h36 (by decide)
  have hp:=List.length_pos_iff.2 hne
  unfold varV
  split
  ·exact Nat.le_refl _
  ·simp only [List.length_append,List.length_cons,List.length_nil,List.length_drop];omega
 ·split
  ·rename_i hn
   have hlit:hd st.r=46∨isD (hd st.r)=true:=by simpa using hn
   have hp:=numLen_pos hlit
   have hne:st.r≠ []:=by
    intro e;rw [e] at hlit
    rcases hlit with h | h <;> exact absurd h (by decide)
   have hl:=List.length_pos_iff.2 hne
   unfold numV
   split
   ·exact Nat.le_refl _
   ·simp only [List.length_append,List.length_cons,List.length_nil,List.length_drop];omega
  ·exact Nat.le_refl _
theorem loop_cnt {op:UInt8→Option Nat} (h0:op 0=none) {f:St→St} (hf:Cnt f):∀k st,(loopV op f k st).ops.length+(loopV op f k st).r.length≤st.ops.length+st.r.length
 | 0,st=>Nat.le_refl _
 | k+1,st=>by
  rw [loopV]
  split
  ·split
   ·exact Nat.le_refl _
   ·rename_i q hq
    have hp:=List.length_pos_iff.2 (op_ne h0 hq)
    have h1:=loop_cnt h0 hf k (put (f ⟨st.r.drop 1,st.ops,0⟩) q 0)
    have h2:=put_len (f ⟨st.r.drop 1,st.ops,0⟩) q 0
    have h3:=hf ⟨st.r.drop 1,st.ops,0⟩
    rw [put_r] at h1
    simp only [List.length_drop] at h3
    omega
  ·exact Nat.le_refl _
theorem prod_cnt {f:St→St} (hf:Cnt f):Cnt (prodV f):=fun st=>Nat.le_trans (loop_cnt rfl hf _ _) (hf st)
theorem sum_cnt {f:St→St} (hf:Cnt f):Cnt (sumV f):=fun st=>Nat.le_trans (loop_cnt rfl (prod_cnt hf) _ _) (prod_cnt hf st)
theorem shut_cnt (st:St):(shutV st).ops.length+(shutV st).r.length≤st.ops.length+st.r.length:=by
 unfold shutV;split
 ·split
  ·simp only [List.length_drop];omega
  ·exact Nat.le_refl _
 ·exact Nat.le_refl _
theorem inner_cnt {f:St→St} (hf:Cnt f) (c:UInt8) (st:St):(innerV f c st).ops.length+(innerV f c st).r.length≤st.ops.length+st.r.length+1:=by
 unfold innerV;split
 ·exact Nat.le_trans (Nat.le_trans (shut_cnt _) (sum_cnt hf st)) (Nat.le_succ _)
 ·split
  ·rw [put_r]
   have h1:=put_len (f st) 7 0
   have h2:=hf st
   omega
  ·exact Nat.le_trans (hf st) (Nat.le_succ _)
theorem sign_ne {r:List UInt8} (h:isSign (hd r)=true):r≠ []:=by
 intro e;rw [e] at h;exact absurd h (by decide)
theorem factor_cnt:∀d,Cnt (factorV d)
 | 0,st=>by
  rw [factorV];split
  ·exact Nat.le_refl _
  ·exact leaf_cnt st
 | d+1,st=>by
  rw [factorV];split
  ·rename_i hs
   have h1:=inner_cnt (factor_cnt d) (hd st.r) ⟨st.r.drop 1,st.ops,st.e⟩
   have h2:=List.length_pos_iff.2 (sign_ne hs)
   simp only [List.length_drop] at h1
   omega
  ·exact leaf_cnt st
end Go.Proofs.YtfldplmgkeiimaaGreatDoor.Ep
namespace Go.Proofs.YtfldplmgkeiimaaGreatDoor.Vp
abbrev P2:=Int × Int
structure Bs where
 k:Int
 a:P2
 b:P2
 c:P2
 r:Int
 l:List (List P2)
deriving DecidableEq
def bs0:Bs:=⟨0,(0,0),(0,0),(0,0),0, []⟩
inductive Ps where
 | nil
 | cons (add:Bool) (b:Bs) (sub:Ps) (rest:Ps)
deriving DecidableEq
structure Shp where
 b:Bs
 p:Ps
deriving DecidableEq
def sh0:Shp:=⟨bs0, .nil⟩
namespace Ps
def len:Ps→Nat
 | nil=>0
 | cons _ _ _ r=>r.len+1
def count:Ps→Nat
 | nil=>0
 | cons _ _ s r=>s.count+r.count+1
def append:Ps→Ps→Ps
 | nil,q=>q
 | cons a b s r,q=>cons a b s (r.append q)
def map (f:Bs→Bs):Ps→Ps
 | nil=>nil
 | cons a b s r=>cons a (f b) (s.map f) (r.map f)
def one (a:Bool) (s:Shp):Ps:=cons a s.b s.p nil
end Ps
def farV (p:P2):Bool:=decide (-536870912≤p.1) && (decide (p.1≤536870912) && (decide (-536870912≤p.2) && decide (p.2≤536870912)))
def radV (r:Int):Bool:=decide (1≤r) && decide (r≤536870912)
def z2:P2:=(0,0)
def bareV (b:Bs) (n:Nat):Bool:=
 if (b.k≠2∧0 < b.l.length)∨(b.k≠6∧0 < n) then false
 else if b.k=1 then decide (b.b=z2) && decide (b.c=z2)
 else if b.k=3∨b.k=4 then decide (b.c=z2)
 else if b.k=2∨b.k=6 then decide (b.a=z2) && (decide (b.b=z2) && (decide (b.c=z2) && decide (b.r=0)))
 else true
def contV (l:List (List P2)):Bool:=decide ((l.map List.length).sum≤1000) && l.all fun c=>c.all farV
def dist2 (p q:P2):Int:=(p.1 - q.1) *(p.1 - q.1)+(p.2 - q.2) *(p.2 - q.2)
def ringOk (c a e:P2):Bool:=decide (dist2 a c≠0) && decide (dist2 a c=dist2 e c)
def simpleV (b:Bs):Bool:=
 if b.k=1 then farV b.a && radV b.r
 else if b.k=2 then contV b.l
 else if b.k=3 then farV b.a && (farV b.b && radV b.r)
 else if b.k=4 then farV b.a && (farV b.b && (radV b.r && decide (b.a≠b.b)))
 else if b.k=5 then farV b.a && (farV b.b && (farV b.c && (radV b.r && ringOk b.c b.a b.b)))
 else false
def partsV:Ps→Nat→Int→Option Int
 | .nil,_,left=>some left
 | .cons _ b s r,f,left=>
  if left < 1∨bareV b s.len=false then none
  else if b.k=6 then (if 8≤f then none else match partsV s (f+1) (left - 1) with
   | none=>none
   | some m=>partsV r f m)
  else if simpleV b=true then partsV r f (left - 1) else none
def okV (s:Shp):Bool:=(partsV (.one true s) 0 1000).isSome
structure Tn where
 mx:Bool
 my:Bool
 q:Int
 by_:P2
deriving DecidableEq
def tn0:Tn:=⟨false,false,0,(0,0)⟩
def flip (c:Bool) (v:Int):Int:=if c then -v else v
def quartV (q:Int) (p:P2):P2:=if q % 4=1 then (-p.2,p.1) else if q % 4=2 then (-p.1,-p.2) else if q % 4=3 then (p.2,-p.1) else p
def ptV (t:Tn) (p:P2):P2:=((quartV t.q (flip t.mx p.1,flip t.my p.2)).1+t.by_.1,(quartV t.q (flip t.mx p.1,flip t.my p.2)).2+t.by_.2)
def turnB (t:Tn) (b:Bs):Bs:=
 if b.k=1 then {bs0 with k:=1,r:=b.r,a:=ptV t b.a}
 else if b.k=3∨b.k=4 then {bs0 with k:=b.k,r:=b.r,a:=ptV t b.a,b:=ptV t b.b}
 else if b.k=5 then {bs0 with k:=5,r:=b.r,a:=(if t.mx≠t.my then ptV t b.b else ptV t b.a),b:=(if t.mx≠t.my then ptV t b.a else ptV t b.b),c:=ptV t b.c}
 else if b.k=2 then {bs0 with k:=2,r:=b.r,l:=b.l.map fun c=>c.map (ptV t)}
 else {bs0 with k:=b.k,r:=b.r}
def turnP (t:Tn):Ps→Ps
 | .nil=> .nil
 | .cons a b s r=> .cons a (turnB t b) (if b.k=6 then turnP t s else .nil) (turnP t r)
def turnS (t:Tn) (s:Shp):Shp:=⟨turnB t s.b,if s.b.k=6 then turnP t s.p else .nil⟩
def applyV (t:Tn) (s:Shp):Option Shp:=if okV s=true∧okV (turnS t s)=true then some (turnS t s) else none
theorem Ps.len_append (p q:Ps):(p.append q).len=p.len+q.len:=by
 induction p with
 | nil=>simp [append,len]
 | cons a b s r _ ih=>simp [append,len,ih];omega
theorem Ps.append_nil (p:Ps):p.append .nil=p:=by
 induction p with
 | nil=>rfl
 | cons a b s r _ ih=>simp [append,ih]
theorem Ps.append_assoc (p q r:Ps):(p.append q).append r=p.append (q.append r):=by
 induction p with
 | nil=>rfl
 | cons a b s t _ ih=>simp [append,ih]
theorem Ps.count_append (p q:Ps):(p.append q).count=p.count+q.count:=by
 induction p with
 | nil=>simp [append,count]
 | cons a b s r _ ih=>simp [append,count,ih];omega
theorem partsV_mono {p:Ps}:∀{f:Nat} {n m:Int},partsV p f n=some m→m≤n∧n - m=p.count:=by
 induction p with
 | nil=>intro f n m h;simp only [partsV,Option.some.injEq] at h;subst h;simp [Ps.count]
 | cons a b s r ih1 ih2=>
  intro f n m h
  unfold partsV at h
  split at h
  ·cases h
  ·rename_i h0
   have hb:bareV b s.len=true:=by
    cases hx:bareV b s.len
    ·exact absurd (.inr hx) h0
    ·rfl
   split at h
   ·split at h
    ·cases h
    ·split at h
     ·cases h
     ·rename_i k hk
      have h1:=ih1 hk
      have h2:=ih2 h
      simp only [Ps.count]
      omega
   ·rename_i h6
    split at h
    ·have h2:=ih2 h
     have hs:s.len=0:=by
      rcases Nat.eq_zero_or_pos s.len with e | e
      ·exact e
      ·unfold bareV at hb
       rw [if_pos (.inr ⟨h6,e⟩)] at hb
       cases hb
     have hc:s.count=0:=by
      cases s with
      | nil=>rfl
      | cons _ _ _ _=>simp [Ps.len] at hs
     simp only [Ps.count,hc]
     omega
    ·cases h
end Go.Proofs.YtfldplmgkeiimaaGreatDoor.Vp
namespace Go.Proofs.YtfldplmgkeiimaaGreatDoor.VW
open Go.RowKit Go.Proofs.YtfldplmgkeiimaaGreatDoor.Vp
abbrev tPt:TypeId:=71
abbrev tPts:TypeId:=78
abbrev tPart:TypeId:=80
abbrev tSh:TypeId:=75
structure Keep (S:Nat→Prop) (w w':World):Prop where
 os:w'.os=w.os
 tape:w'.tape=w.tape
 output:w'.output=w.output
 size:w.heap.size≤w'.heap.size
 block:∀k,S k→k < w.heap.size→w'.heap[k]?=w.heap[k]?
theorem Keep.refl (S:Nat→Prop) (w:World):Keep S w w:=⟨rfl,rfl,rfl,Nat.le_refl _,fun _ _ _=>rfl⟩
theorem Keep.trans {S:Nat→Prop} {a b c:World} (h:Keep S a b) (g:Keep S b c):Keep S a c:=⟨g.os.trans h.os,g.tape.trans h.tape,g.output.trans h.output,Nat.le_trans h.size g.size,fun k hk hl=>(g.block k hk (Nat.lt_of_lt_of_le hl h.size)).trans (h.block k hk hl)⟩
theorem Keep.of_below {S:Nat→Prop} {w w':World} (h:Below w.heap.size w w'):Keep S w w':=⟨h.os,h.tape,h.output,h.size,fun k _ hl=>h.block k hl⟩
theorem Keep.mono {S R:Nat→Prop} {w w':World} (h:Keep S w w') (hR:∀k,k < w.heap.size→R k→S k):Keep R w w':=⟨h.os,h.tape,h.output,h.size,fun k hk hl=>h.block k (hR k hl hk) hl⟩
theorem Keep.below {S:Nat→Prop} {w w':World} (B:Nat) (h:Keep S w w') (hB:B≤w.heap.size) (hS:∀k,k < B→S k):Below B w w':=⟨h.os,h.tape,h.output,h.size,fun k hk=>h.block k (hS k hk) (Nat.lt_of_lt_of_le hk hB)⟩
theorem Keep.get {S:Nat→Prop} {w w':World} (h:Keep S w w') {k:Nat} {o:Obj} (hk:S k) (ho:w.heap[k]?=some o):w'.heap[k]?=some o:=(h.block k hk (Array.getElem?_eq_some_iff.1 ho).1).trans ho
theorem Keep.grown {S:Nat→Prop} {w w':World} {row:Option Nat} (h:w.grownBy w' row) (hr:∀k,row=some k→¬S k):Keep S w w':=⟨h.os,h.tape,h.output,h.size,fun k hk hl=>h.block k hl fun e=>hr k e.symm hk⟩
theorem Keep.set {S:Nat→Prop} {w:World} {a:Addr} (h:¬S a.block) (u:Value):Keep S w (w.setCell a u):=⟨rfl,rfl,rfl,by simp [World.setCell],fun k hk _=>Below.heap_setCell _ _ _ _ fun e=>h (e ▸ hk)⟩
theorem Keep.alloc (S:Nat→Prop) (w:World) (o:Obj):Keep S w (w.alloc o):= .of_below ((Below.refl _ _).alloc (Nat.le_refl _) _)
abbrev big:Nat:=1000000000
def PtsIn (S:Nat→Prop) (w:World) (p:Option Addr) (l:List P2):Prop:=l.length≤big∧(0 < l.length→∃(b o:Nat) (cs:Array Value),p=some ⟨b,o,none⟩∧S b∧w.heap[b]?=some (.cells cs tPt)∧∀i (hi:i < l.length),cs[o+i *2]?=some (.int .i64 l[i].1)∧cs[o+i *2+1]?=some (.int .i64 l[i].2))
def ConsIn (S:Nat→Prop) (w:World) (p:Option Addr) (l:List (List P2)):Prop:=l.length≤big∧(0 < l.length→∃(b o:Nat) (cs:Array Value),p=some ⟨b,o,none⟩∧S b∧w.heap[b]?=some (.cells cs tPts)∧∀i (hi:i < l.length),∃q c,cs[o+i]?=some (.slice q l[i].length c)∧l[i].length≤c∧PtsIn S w q l[i])
abbrev shVs (b:Bs) (vl vp:Value):List Value:= [.int .i64 b.k, .int .i64 b.a.1, .int .i64 b.a.2, .int .i64 b.b.1, .int .i64 b.b.2, .int .i64 b.c.1, .int .i64 b.c.2, .int .i64 b.r,vl,vp]
abbrev shCs (b:Bs) (vl vp:Value):Array Value:= #[.int .i64 b.k, .int .i64 b.a.1, .int .i64 b.a.2, .int .i64 b.b.1, .int .i64 b.b.2, .int .i64 b.c.1, .int .i64 b.c.2, .int .i64 b.r,vl,vp]
abbrev shV (b:Bs) (vl vp:Value):Value:= .agg (shCs b vl vp)
def PartsAt (S:Nat→Prop) (w:World):Ps→List Value→Prop
 | .nil,_=>True
 | .cons a b s r,xs=>(∃(pl:Option Addr) (cl:Nat) (pp:Option Addr) (cp:Nat),xs.take 11= .bool a :: shVs b (.slice pl b.l.length cl) (.slice pp s.len cp)∧b.l.length≤cl∧s.len≤cp∧ConsIn S w pl b.l∧s.len≤big∧
  (0 < s.len→∃(k o:Nat) (cs:Array Value),pp=some ⟨k,o,none⟩∧S k∧w.heap[k]?=some (.cells cs tPart)∧PartsAt S w s (cs.toList.drop o)))∧PartsAt S w r (xs.drop 11)
def PsIn (S:Nat→Prop) (w:World) (p:Option Addr) (s:Ps):Prop:=s.len≤big∧(0 < s.len→∃(k o:Nat) (cs:Array Value),p=some ⟨k,o,none⟩∧S k∧w.heap[k]?=some (.cells cs tPart)∧PartsAt S w s (cs.toList.drop o))
structure ShIn (S:Nat→Prop) (w:World) (pl:Option Addr) (cl:Nat) (pp:Option Addr) (cp:Nat) (s:Shp):Prop where
 l:ConsIn S w pl s.b.l
 p:PsIn S w pp s.p
 cl:s.b.l.length≤cl
 cp:s.p.len≤cp
theorem PtsIn.nil (S:Nat→Prop) (w:World) (p:Option Addr):PtsIn S w p []:=⟨Nat.zero_le _,fun h=>absurd h (Nat.lt_irrefl _)⟩
theorem ConsIn.nil (S:Nat→Prop) (w:World) (p:Option Addr):ConsIn S w p []:=⟨Nat.zero_le _,fun h=>absurd h (Nat.lt_irrefl _)⟩
theorem PsIn.nil (S:Nat→Prop) (w:World) (p:Option Addr):PsIn S w p .nil:=⟨Nat.zero_le _,fun h=>absurd h (Nat.lt_irrefl _)⟩
theorem lt_of_heap {w:World} {k:Nat} {o:Obj} (h:w.heap[k]?=some o):k < w.heap.size:=(Array.getElem?_eq_some_iff.1 h).1
theorem PartsAt.head {S:Nat→Prop} {w:World} {a:Bool} {b:Bs} {s r:Ps} {xs:List Value} (h:PartsAt S w (.cons a b s r) xs):
  ∃(pl:Option Addr) (cl:Nat) (pp:Option Addr) (cp:Nat),xs.take 11= .bool a :: shVs b (.slice pl b.l.length cl) (.slice pp s.len cp)∧ShIn S w pl cl pp cp ⟨b,s⟩:=by
 obtain ⟨⟨pl,cl,pp,cp,h1,h2,h3,h4,h5,h6⟩,_⟩:=h
 exact ⟨pl,cl,pp,cp,h1,h4,⟨h5,h6⟩,h2,h3⟩
theorem PartsAt.mk {S:Nat→Prop} {w:World} {a:Bool} {b:Bs} {s r:Ps} {xs:List Value} {pl:Option Addr} {cl:Nat} {pp:Option Addr} {cp:Nat} (h:xs.take 11= .bool a :: shVs b (.slice pl b.l.length cl) (.slice pp s.len cp)) (hs:ShIn S w pl cl pp cp ⟨b,s⟩) (hr:PartsAt S w r (xs.drop 11)):PartsAt S w (.cons a b s r) xs:=
 ⟨⟨pl,cl,pp,cp,h,hs.cl,hs.cp,hs.l,hs.p.1,hs.p.2⟩,hr⟩
section
variable {S R:Nat→Prop} {w w':World}
theorem PtsIn.keep {p:Option Addr} {l:List P2} (h:PtsIn S w p l) (hk:Keep S w w'):PtsIn S w' p l:=by
 refine ⟨h.1,fun hl=>?_⟩
 obtain ⟨b,o,cs,rfl,hB,hh,hc⟩:=h.2 hl
 exact ⟨b,o,cs,rfl,hB,hk.get hB hh,hc⟩
theorem PtsIn.mono {p:Option Addr} {l:List P2} (h:PtsIn S w p l) (hk:∀k,k < w.heap.size→S k→R k):PtsIn R w p l:=by
 refine ⟨h.1,fun hl=>?_⟩
 obtain ⟨b,o,cs,rfl,hB,hh,hc⟩:=h.2 hl
 exact ⟨b,o,cs,rfl,hk _ (lt_of_heap hh) hB,hh,hc⟩
theorem ConsIn.keep {p:Option Addr} {l:List (List P2)} (h:ConsIn S w p l) (hk:Keep S w w'):ConsIn S w' p l:=by
 refine ⟨h.1,fun hl=>?_⟩
 obtain ⟨b,o,cs,rfl,hB,hh,hc⟩:=h.2 hl
 refine ⟨b,o,cs,rfl,hB,hk.get hB hh,fun i hi=>?_⟩
 obtain ⟨q,c,hq,hc',ho⟩:=hc i hi
 exact ⟨q,c,hq,hc',ho.keep hk⟩
theorem ConsIn.mono {p:Option Addr} {l:List (List P2)} (h:ConsIn S w p l) (hk:∀k,k < w.heap.size→S k→R k):ConsIn R w p l:=by
 refine ⟨h.1,fun hl=>?_⟩
 obtain ⟨b,o,cs,rfl,hB,hh,hc⟩:=h.2 hl
 refine ⟨b,o,cs,rfl,hk _ (lt_of_heap hh) hB,hh,fun i hi=>?_⟩
 obtain ⟨q,c,hq,hc',ho⟩:=hc i hi
 exact ⟨q,c,hq,hc',ho.mono hk⟩
theorem PartsAt.keep (hk:Keep S w w'):∀{s:Ps} {xs:List Value},PartsAt S w s xs→PartsAt S w' s xs
 | .nil,_,_=>trivial
 | .cons a b s r,xs,h=>by
  obtain ⟨⟨pl,cl,pp,cp,h1,h2,h3,h4,h7,h5⟩,h6⟩:=h
  refine ⟨⟨pl,cl,pp,cp,h1,h2,h3,h4.keep hk,h7,fun hl=>?_⟩,PartsAt.keep hk h6⟩
  obtain ⟨k,o,cs,e,hS,hh,hp⟩:=h5 hl
  exact ⟨k,o,cs,e,hS,hk.get hS hh,PartsAt.keep hk hp⟩
theorem PartsAt.mono (hk:∀k,k < w.heap.size→S k→R k):∀{s:Ps} {xs:List Value},PartsAt S w s xs→PartsAt R w s xs
 | .nil,_,_=>trivial
 | .cons a b s r,xs,h=>by
  obtain ⟨⟨pl,cl,pp,cp,h1,h2,h3,h4,h7,h5⟩,h6⟩:=h
  refine ⟨⟨pl,cl,pp,cp,h1,h2,h3,h4.mono hk,h7,fun hl=>?_⟩,PartsAt.mono hk h6⟩
  obtain ⟨k,o,cs,e,hS,hh,hp⟩:=h5 hl
  exact ⟨k,o,cs,e,hk _ (lt_of_heap hh) hS,hh,PartsAt.mono hk hp⟩
theorem PsIn.keep {p:Option Addr} {s:Ps} (h:PsIn S w p s) (hk:Keep S w w'):PsIn S w' p s:=by
 refine ⟨h.1,fun hl=>?_⟩
 obtain ⟨k,o,cs,e,hS,hh,hp⟩:=h.2 hl
 exact ⟨k,o,cs,e,hS,hk.get hS hh,PartsAt.keep hk hp⟩
theorem PsIn.mono {p:Option Addr} {s:Ps} (h:PsIn S w p s) (hk:∀k,k < w.heap.size→S k→R k):PsIn R w p s:=by
 refine ⟨h.1,fun hl=>?_⟩
 obtain ⟨k,o,cs,e,hS,hh,hp⟩:=h.2 hl
 exact ⟨k,o,cs,e,hk _ (lt_of_heap hh) hS,hh,PartsAt.mono hk hp⟩
theorem ShIn.keep {pl pp:Option Addr} {cl cp:Nat} {s:Shp} (h:ShIn S w pl cl pp cp s) (hk:Keep S w w'):ShIn S w' pl cl pp cp s:=⟨h.l.keep hk,h.p.keep hk,h.cl,h.cp⟩
theorem ShIn.mono {pl pp:Option Addr} {cl cp:Nat} {s:Shp} (h:ShIn S w pl cl pp cp s) (hk:∀k,k < w.heap.size→S k→R k):ShIn R w pl cl pp cp s:=⟨h.l.mono hk,h.p.mono hk,h.cl,h.cp⟩
theorem ShIn.below {pl pp:Option Addr} {cl cp:Nat} {s:Shp} (h:ShIn S w pl cl pp cp s) (hb:Below w.heap.size w w'):ShIn S w' pl cl pp cp s:=h.keep (.of_below hb)
theorem ConsIn.below {p:Option Addr} {l:List (List P2)} (h:ConsIn S w p l) (hb:Below w.heap.size w w'):ConsIn S w' p l:=h.keep (.of_below hb)
theorem PtsIn.below {p:Option Addr} {l:List P2} (h:PtsIn S w p l) (hb:Below w.heap.size w w'):PtsIn S w' p l:=h.keep (.of_below hb)
theorem PsIn.below {p:Option Addr} {s:Ps} (h:PsIn S w p s) (hb:Below w.heap.size w w'):PsIn S w' p s:=h.keep (.of_below hb)
theorem PartsAt.below {s:Ps} {xs:List Value} (h:PartsAt S w s xs) (hb:Below w.heap.size w w'):PartsAt S w' s xs:=h.keep (.of_below hb)
theorem ShIn.lt {pl pp:Option Addr} {cl cp:Nat} {s:Shp} (h:ShIn S w pl cl pp cp s):ShIn (fun k=>S k∧k < w.heap.size) w pl cl pp cp s:=h.mono fun _ h1 h2=>⟨h2,h1⟩
end
theorem PartsAt.append {S:Nat→Prop} {w:World}:∀{s:Ps} {xs ys:List Value} {t:Ps},PartsAt S w s xs→xs.length=s.len *11→PartsAt S w t ys→PartsAt S w (s.append t) (xs++ys)
 | .nil,xs,ys,t,_,hl,h=>by
  obtain rfl:xs= []:=List.eq_nil_of_length_eq_zero (by simpa [Ps.len] using hl)
  exact h
 | .cons a b s r,xs,ys,t,h,hl,g=>by
  obtain ⟨⟨pl,cl,pp,cp,h1,h2⟩,h6⟩:=h
  have h11:11≤xs.length:=by rw [hl];simp only [Ps.len];omega
  refine ⟨⟨pl,cl,pp,cp,by rw [List.take_append_of_le_length h11];exact h1,h2⟩,?_⟩
  rw [List.drop_append_of_le_length h11]
  exact PartsAt.append h6 (by simp only [List.length_drop,hl,Ps.len];omega) g
theorem cells11 {cs:Array Value} {n:Nat} {v0 v1 v2 v3 v4 v5 v6 v7 v8 v9 v10:Value} (h:(cs.toList.drop n).take 11= [v0,v1,v2,v3,v4,v5,v6,v7,v8,v9,v10]):
  cs[n]?=some v0∧cs[n+1]?=some v1∧cs[n+2]?=some v2∧cs[n+3]?=some v3∧cs[n+4]?=some v4∧cs[n+5]?=some v5∧cs[n+6]?=some v6∧cs[n+7]?=some v7∧cs[n+8]?=some v8∧cs[n+9]?=some v9∧cs[n+10]?=some v10:=by
 have key:∀j,j < 11→cs[n+j]?= [v0,v1,v2,v3,v4,v5,v6,v7,v8,v9,v10][j]?:=by
  intro j hj
  rw [←h,List.getElem?_take,if_pos hj,List.getElem?_drop]
  simp
 exact ⟨key 0 (by decide),key 1 (by decide),key 2 (by decide),key 3 (by decide),key 4 (by decide),key 5 (by decide),key 6 (by decide),key 7 (by decide),key 8 (by decide),key 9 (by decide),key 10 (by decide)⟩
end Go.Proofs.YtfldplmgkeiimaaGreatDoor.VW
namespace Go.Proofs.YtfldplmgkeiimaaGreatDoor.VW
open Go.RowKit Go.Proofs.YtfldplmgkeiimaaGreatDoor.Vp
abbrev ptV2 (p:P2):Value:= .agg #[.int .i64 p.1, .int .i64 p.2]
abbrev ptO (p:P2):Obj:= .cells #[.int .i64 p.1, .int .i64 p.2] tPt
theorem ret_b {a b:Bool} (h:a=b):Ending.returned (.bool a)= .returned (.bool b):=by rw [h]
def bareN (k:Int) (a b c:P2) (r:Int) (nl np:Nat):Bool:=
 if (k≠2∧0 < nl)∨(k≠6∧0 < np) then false
 else if k=1 then decide (b=z2) && decide (c=z2)
 else if k=3∨k=4 then decide (c=z2)
 else if k=2∨k=6 then decide (a=z2) && (decide (b=z2) && (decide (c=z2) && decide (r=0)))
 else true
theorem near_c (p:P2) (w:World):Calls Tryz.prog 245 #[ptV2 p] w fun e w'=>e= .returned (.bool (farV p))∧w.alloc (ptO p)=w':=by
 obtain ⟨x,y⟩:=p
 go_enter Tryz.func245,Tryz.ntmps245
 go_wp2_with fail
 all_goals
  go_ret
  refine ⟨ret_b (Bool.eq_iff_iff.2 ⟨fun h=>?_,fun h=>?_⟩),rfl⟩<;> simp only [farV,Bool.and_eq_true,decide_eq_true_eq,Bool.false_eq_true] at h⊢<;> omega
theorem width_c (r:Int) (w:World):Calls Tryz.prog 246 #[.int .i64 r] w fun e w'=>e= .returned (.bool (radV r))∧w=w':=by
 go_enter Tryz.func246,Tryz.ntmps246
 go_wp2_with fail
 all_goals
  go_ret
  refine ⟨ret_b (Bool.eq_iff_iff.2 ⟨fun h=>?_,fun h=>?_⟩),rfl⟩<;> simp only [radV,Bool.and_eq_true,decide_eq_true_eq,Bool.false_eq_true] at h⊢<;> omega
set_option maxHeartbeats 800000 in
theorem bare_c (k ax ay bx bz cx cy r:Int) (pl pp:Option Addr) (nl np cl cp:Nat) (w:World):
  Calls Tryz.prog 244 #[.agg #[.int .i64 k, .int .i64 ax, .int .i64 ay, .int .i64 bx, .int .i64 bz, .int .i64 cx, .int .i64 cy, .int .i64 r, .slice pl nl cl, .slice pp np cp]] w fun e w'=>e= .returned (.bool (bareN k (ax,ay) (bx,bz) (cx,cy) r nl np))∧Below w.heap.size w w':=by
 go_enter Tryz.func244,Tryz.ntmps244
 go_wp2_with fail
 all_goals
  go_ret
  refine ⟨ret_b ?_,((Below.refl _ _).alloc (Nat.le_refl _) _).alloc (by simp) _⟩
  first |(simp [bareN,z2, *];done)| grind [bareN,z2]
end Go.Proofs.YtfldplmgkeiimaaGreatDoor.VW
