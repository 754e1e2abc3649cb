/-
  Several texts of this proof in one: Vm, Up, Fr, Ev, K4, Vb.
-/
import Derived.Test.YtfldplmgkeiimaaGreatDoorQ2
import Derived.Test.YtfldplmgkeiimaaGreatDoorQ0
set_option linter.unusedVariables false
set_option linter.unusedSimpArgs false
namespace Go.Proofs.YtfldplmgkeiimaaGreatDoor.VW
open Go.RowKit Go.Proofs.YtfldplmgkeiimaaGreatDoor.Vp
theorem make_rows {P:Program} (t e:TypeId) (z:Value) (size bytes:Nat) (ht:P.underlying t=some (.slice e)) (hinfo:(P.info? e).map (fun i=>(i.zero,i.size,i.bytes))=some (some z,size,bytes)) (n:Nat) (hbytes:bytes *n≤281474976710656) (h63:n≤9223372036854775807) (w:World):
  (Instr.makeSlice t (.int .i64 (n:Int)) (.int .i64 (n:Int))).run P w= .ok (.slice (some ⟨w.heap.size,0,none⟩) n n) (w.alloc (.cells (madeCells z.cells (n *size)) e)):=by
 obtain ⟨i,hi,hzz⟩:=Option.map_eq_some_iff.1 hinfo
 simp only [Prod.mk.injEq] at hzz
 obtain ⟨hz,hs,hb⟩:=hzz
 have hb':(i.bytes:Int) *(n:Int)≤281474976710656:=by
  have h:((i.bytes *n:Nat):Int)≤281474976710656:=by rw [hb];omega
  rwa [Int.natCast_mul] at h
 have hr:=run_make (P:=P) w t e i z ht hi hz .i64 .i64 n n (by omega) (Int.le_refl _) hb' (by omega)
 simp only [Int.toNat_natCast,hs] at hr
 exact hr
theorem info_pts:(Tryz.prog.info? 78).map (fun i=>(i.zero,i.size,i.bytes))=some (some (.slice none 0 0),1,24):=by kernel_rfl
theorem info_pt:(Tryz.prog.info? 71).map (fun i=>(i.zero,i.size,i.bytes))=some (some (.agg #[.int .i64 0, .int .i64 0]),2,16):=by kernel_rfl
def RowAt (R:Nat→Prop) (x:World) (cs:Array Value) (t:Tn) (l:List (List P2)) (j:Nat):Prop:=∀i (hi:i < l.length),i < j→∃q c,cs[i]?=some (.slice q l[i].length c)∧l[i].length≤c∧PtsIn R x q (l[i].map (ptV t))
theorem RowAt.keep {R:Nat→Prop} {x y:World} {cs:Array Value} {t:Tn} {l:List (List P2)} {j:Nat} (h:RowAt R x cs t l j) (hk:Keep R x y):RowAt R y cs t l j:=by
 intro i hi hj
 obtain ⟨q,c,h1,h2,h3⟩:=h i hi hj
 exact ⟨q,c,h1,h2,h3.keep hk⟩
theorem RowAt.mono {R Q:Nat→Prop} {x:World} {cs:Array Value} {t:Tn} {l:List (List P2)} {j:Nat} (h:RowAt R x cs t l j) (hk:∀k,k < x.heap.size→R k→Q k):RowAt Q x cs t l j:=by
 intro i hi hj
 obtain ⟨q,c,h1,h2,h3⟩:=h i hi hj
 exact ⟨q,c,h1,h2,h3.mono hk⟩
theorem RowAt.next {R:Nat→Prop} {x:World} {cs:Array Value} {t:Tn} {l:List (List P2)} {j:Nat} (h:RowAt R x cs t l j) (hs:j < cs.size) {q:Option Addr} {m c:Nat} {r:List P2} (hj:j < l.length) (hr:l[j]=r) (hm:r.length=m) (hc:m≤c) (hp:PtsIn R x q (r.map (ptV t))):RowAt R x (cs.setIfInBounds j (.slice q m c)) t l (j+1):=by
 intro i hi hlt
 by_cases e:i=j
 ·subst e
  refine ⟨q,c,?_,by rw [hr,hm];exact hc,by rw [hr];exact hp⟩
  rw [Array.getElem?_setIfInBounds_self_of_lt hs,hr,hm]
 ·obtain ⟨q',c',h1,h2,h3⟩:=h i hi (by omega)
  exact ⟨q',c',by rw [Array.getElem?_setIfInBounds_ne (Ne.symm e)];exact h1,h2,h3⟩
theorem RowAt.cons {R:Nat→Prop} {x:World} {cs:Array Value} {B:Nat} {t:Tn} {l:List (List P2)} (h:RowAt R x cs t l l.length) (hB:R B) (hh:x.heap[B]?=some (.cells cs tPts)) (hb:l.length≤big):ConsIn R x (some ⟨B,0,none⟩) (l.map fun c=>c.map (ptV t)):=by
 refine ⟨by rw [List.length_map];exact hb,fun _=>⟨B,0,cs,rfl,hB,hh,fun i hi=>?_⟩⟩
 rw [List.length_map] at hi
 obtain ⟨q,c,h1,h2,h3⟩:=h i hi hi
 refine ⟨q,c,?_,?_,?_⟩
 ·rw [Nat.zero_add,h1];simp
 ·simpa using h2
 ·rw [List.getElem_map];exact h3
def PtsAt (ps:Array Value) (t:Tn) (r:List P2) (k:Nat):Prop:=∀i (hi:i < r.length),i < k→ps[i *2]?=some (.int .i64 (ptV t r[i]).1)∧ps[i *2+1]?=some (.int .i64 (ptV t r[i]).2)
theorem PtsAt.next {ps:Array Value} {t:Tn} {r:List P2} {k:Nat} (h:PtsAt ps t r k) (hs:k *2+1 < ps.size) {z u:P2} (hk:k < r.length) (hz:r[k]=z) (hu:ptV t z=u):PtsAt ((ps.setIfInBounds (k *2) (.int .i64 u.1)).setIfInBounds (k *2+1) (.int .i64 u.2)) t r (k+1):=by
 intro i hi hlt
 by_cases e:i=k
 ·subst e
  rw [hz,hu]
  constructor
  ·rw [Array.getElem?_setIfInBounds_ne (by omega),Array.getElem?_setIfInBounds_self_of_lt (by omega)]
  ·rw [Array.getElem?_setIfInBounds_self_of_lt (by rw [Array.size_setIfInBounds];exact hs)]
 ·obtain ⟨h1,h2⟩:=h i hi (by omega)
  constructor
  ·rw [Array.getElem?_setIfInBounds_ne (by omega),Array.getElem?_setIfInBounds_ne (by omega)];exact h1
  ·rw [Array.getElem?_setIfInBounds_ne (by omega),Array.getElem?_setIfInBounds_ne (by omega)];exact h2
theorem PtsAt.pts {R:Nat→Prop} {x:World} {ps:Array Value} {C:Nat} {t:Tn} {r:List P2} (h:PtsAt ps t r r.length) (hC:R C) (hh:x.heap[C]?=some (.cells ps tPt)) (hb:r.length≤big):PtsIn R x (some ⟨C,0,none⟩) (r.map (ptV t)):=by
 refine ⟨by rw [List.length_map];exact hb,fun _=>⟨C,0,ps,rfl,hC,hh,fun i hi=>?_⟩⟩
 rw [List.length_map] at hi
 obtain ⟨h1,h2⟩:=h i hi hi
 rw [Nat.zero_add,h1,h2]
 simp
theorem cell_in {w:World} {k i:Nat} {cs:Array Value} {t:TypeId} (h:w.heap[k]?=some (.cells cs t)) (hi:i < cs.size):∃v,w.cell? ⟨k,i,none⟩=some v:=by
 rw [show w.cell? ⟨k,i,none⟩=cs[i]? from by simp [World.cell?,h],Array.getElem?_eq_getElem hi]
 exact ⟨_,rfl⟩
end Go.Proofs.YtfldplmgkeiimaaGreatDoor.VW
namespace Go.Proofs.YtfldplmgkeiimaaGreatDoor.Up
open Go.Proofs.YtfldplmgkeiimaaGreatDoor.Dp
open Go.Lib (decDigits nDigits trimRightB)
def per (u:Int):Int:=if u=1 then 10 else if u=2 then 254 else 0
def fmtOk (u i d:Int):Bool:=(decide (u=1)|| decide (u=2)) && (decide (0≤i) && decide (i≤6)) && (decide (0≤d) && decide (d≤6)) && decide (0 < i+d)
theorem fmtOk_iff (u i d:Int):fmtOk u i d=true↔(u=1∨u=2)∧0≤i∧i≤6∧0≤d∧d≤6∧0 < i+d:=by
 simp [fmtOk];omega
def grainV (n u:Int):Option Int:=
 if okN n=true∧(u=1∨u=2)∧-536870912≤n *per u∧n *per u≤536870912 then some (n *per u) else none
def coordV (l:List UInt8) (u i d:Int) (t:Bool):Option Int:=
 if fmtOk u i d=true∧1≤(strip l).2.length∧((strip l).2.length:Int)≤i+d∧nd (strip l).2=(strip l).2.length then
  let v:Int:=(val (strip l).2 *(if t then 10 ^((i+d).toNat -(strip l).2.length) else 1) *10 ^(6 - d.toNat):Nat)
  grainV (if (strip l).1 then -v else v) u
 else none
def numL' (v size:Nat) (t:Bool):List UInt8:=
 if t then (if trimRightB (pad v size) 48= [] then [48] else trimRightB (pad v size) 48) else decDigits v
theorem per_cases {u:Int} (h:u=1∨u=2):per u=10∨per u=254:=by rcases h with rfl | rfl <;> simp [per]
theorem pow_le12 (k:Nat) (h:k≤12):10 ^ k≤1000000000000:=by
 have:=Nat.pow_le_pow_right (n:=10) (by decide) h
 simpa using this
end Go.Proofs.YtfldplmgkeiimaaGreatDoor.Up
namespace Go.Proofs.YtfldplmgkeiimaaGreatDoor.Fr
def makeV (n d:Int):Int × Int × Nat:=
 if d=0 then (0,0,10) else if 1073741824 < n.natAbs / Nat.gcd n.natAbs d.natAbs∨1073741824 < d.natAbs / Nat.gcd n.natAbs d.natAbs then (0,0,5)
 else (if (n < 0)≠(d < 0) then -((n.natAbs / Nat.gcd n.natAbs d.natAbs:Nat):Int) else ((n.natAbs / Nat.gcd n.natAbs d.natAbs:Nat):Int),((d.natAbs / Nat.gcd n.natAbs d.natAbs:Nat):Int),0)
def In (n d:Int):Prop:=1≤d∧d≤1073741824∧-1073741824≤n∧n≤1073741824
instance (n d:Int):Decidable (In n d):=by unfold In;infer_instance
def good (n d:Int):Bool:=decide (In n d) && decide (Nat.gcd n.natAbs d.natAbs=1)
def doV (k n d m e:Int):Int × Int × Nat:=
 if good n d=true∧good m e=true then
  (if k=3 then makeV (n *e+m *d) (d *e) else if k=4 then makeV (n *e - m *d) (d *e) else if k=5 then makeV (n *m) (d *e) else if k=6 then makeV (n *e) (d *m) else (0,0,5))
 else (0,0,5)
end Go.Proofs.YtfldplmgkeiimaaGreatDoor.Fr
namespace Go.Proofs.YtfldplmgkeiimaaGreatDoor.Fr
open Go.Proofs.YtfldplmgkeiimaaGreatDoor.Dp
def kn (k n:Int):Bool:=
 if k=1 then decide (0≤n) && okN n else if k=2 then decide (1≤n∧n≤99) else if 3≤k∧k≤7 then decide (n=0) else false
def tk (k:Int):Nat:=if k=1∨k=2 then 0 else if k=7 then 1 else 2
def top (st:List (Int × Int)) (i:Nat):Int × Int:=st.getD (st.length - i) (0,0)
def varV (vars:List (Int × Int)) (n:Int):Int × Int:=if n≤vars.length then vars.getD (n.toNat - 1) (0,0) else (0,1)
def opV (vars st:List (Int × Int)) (k n:Int):Int × Int × Nat:=
 if k=1 then makeV n 1000000
 else if k=2 then ((varV vars n).1,(varV vars n).2,if good (varV vars n).1 (varV vars n).2=true then 0 else 5)
 else if k=7 then (-(top st 1).1,(top st 1).2,0)
 else doV k (top st 2).1 (top st 2).2 (top st 1).1 (top st 1).2
def stepV (vars st:List (Int × Int)) (k n:Int):List (Int × Int)× Nat:=
 if kn k n=false∨st.length < tk k then (st,3)
 else if (opV vars st k n).2.2=0 then (st.take (st.length - tk k)++ [((opV vars st k n).1,(opV vars st k n).2.1)],0) else (st,(opV vars st k n).2.2)
def endV (st:List (Int × Int)):Int × Int × Nat:=match st with
 | [x]=>(x.1,x.2,0)
 | _=>(0,0,3)
def runV (vars:List (Int × Int)):List (Int × Int)→List (Int × Int)→Int × Int × Nat
 | [],st=>endV st
 | o :: l,st=>if (stepV vars st o.1 o.2).2=0 then runV vars l (stepV vars st o.1 o.2).1 else (0,0,(stepV vars st o.1 o.2).2)
def evalV (vars l:List (Int × Int)):Int × Int × Nat:=runV vars l []
def Small (st:List (Int × Int)):Prop:=∀x∈st,-1073741824≤x.1∧x.1≤1073741824∧0≤x.2∧x.2≤1073741824
theorem Small.take {st:List (Int × Int)} (h:Small st) (k:Nat):Small (st.take k):=fun x hx=>h x (List.mem_of_mem_take hx)
theorem Small.snoc {st:List (Int × Int)} (h:Small st) {n d:Int} (h1:-1073741824≤n) (h2:n≤1073741824) (h3:0≤d) (h4:d≤1073741824):Small (st++ [(n,d)]):=by
 intro x hx
 rcases List.mem_append.1 hx with hx | hx
 ·exact h x hx
 ·simp only [List.mem_singleton] at hx
  subst hx
  exact ⟨h1,h2,h3,h4⟩
end Go.Proofs.YtfldplmgkeiimaaGreatDoor.Fr
namespace Go.Proofs.YtfldplmgkeiimaaGreatDoor.Gp
open Go.Proofs.YtfldplmgkeiimaaGreatDoor.Dp
open Go.Proofs.YtfldplmgkeiimaaGreatDoor.Ep (parseV)
structure Wd where
 a:Nat
 ext:Bool
 first:Bool
 t:List UInt8
deriving DecidableEq
structure Ws where
 words:List Wd
 text:List UInt8
 a:Nat
 group:Bool
 inner:Nat
deriving DecidableEq
def ws0:Ws:=⟨[], [],0,false,0⟩
def endW (s:Ws):Except Nat Ws:=
 if s.text= [] then .error 2 else .ok {s with words:=s.words++ [⟨s.a,s.group,decide (s.inner=0),s.text⟩],inner:=(if s.group=true then s.inner+1 else s.inner),text:= []}
def addW (s:Ws) (c:UInt8):Except Nat Ws:=if s.text.length=10000 then .error 6 else .ok {s with text:=s.text++ [c]}
def takeW (s:Ws) (c:UInt8) (i:Nat):Except Nat Ws:=
 if c=13∨c=10 then .ok s
 else if c.toNat < 32∨126 < c.toNat then .error 2
 else if c=42 then endW s
 else if c=37 then (if s.text≠ []∨(s.group=true∧s.inner=0) then .error 2 else .ok {s with group:=!s.group,inner:=0})
 else if s.text= [] then (if s.words.length=20000 then .error 6 else addW {s with a:=i} c)
 else addW s c
def goW:List UInt8→Nat→Ws→Except (Nat × Nat) Ws
 | [],_,s=> .ok s
 | c :: r,i,s=>match takeW s c i with
  | .error e=> .error (i,e)
  | .ok s'=>goW r (i+1) s'
def wordsV (s:List UInt8):List Wd × Nat × Nat:=
 if 1000000 < s.length then ([],0,6) else match goW s 0 ws0 with
  | .error (i,e)=>([],i,e)
  | .ok st=>if st.text≠ []∨st.group=true then ([],s.length,2) else (st.words,0,0)
structure Blk where
 k:Int
 n:Int
 t:List UInt8
 args:List (List (Int × Int))
deriving DecidableEq
def b0:Blk:=⟨0,0, [], []⟩
def numberV (s:List UInt8):Option (List UInt8 × List UInt8):=if nd s=0∨s.headD 0=48 then none else some (s.take (nd s),s.drop (nd s))
def bvarV (s:List UInt8):Except Nat Blk:=match numberV s with
 | none=> .error 3
 | some (d,r)=>if 2 < d.length∨r.headD 0≠61 then .error 3 else match parseV (r.drop 1) with
  |(l,_,e)=>if e≠0 then .error e else .ok ⟨2,val d, [], [l]⟩
def primV (d:List UInt8):Int:=if d= [49] then 1 else if d= [52] then 4 else if d= [55] then 7 else if d= [50,48] then 20 else if d= [50,49] then 21 else 0
def cutB (c:UInt8) (s:List UInt8):List UInt8 × List UInt8 × Bool:=
 if (s.takeWhile (· !=c)).length < s.length then (s.takeWhile (· !=c),s.drop ((s.takeWhile (· !=c)).length+1),true) else (s, [],false)
def fitsP (n:Int) (k:Nat):Bool:=
 if n=1 then decide (k=4)|| decide (k=5) else if n=20 then decide (k=7) else if n=21∨n=7 then decide (k=6) else if n=4 then decide (k % 2=1) && (decide (7≤k) && decide (k≤1100)) else false
def argsV:Nat→List UInt8→List (List (Int × Int))→Except Nat (List (List (Int × Int)))
 | 0,_,acc=> .ok acc
 | f+1,s,acc=>if acc.length=1100 then .error 6 else match parseV (cutB 44 s).1 with
  |(l,_,e)=>if e≠0 then .error e else if (cutB 44 s).2.2=true then argsV f (cutB 44 s).2.1 (acc++ [l]) else .ok (acc++ [l])
def bprimV (s:List UInt8):Except Nat Blk:=match numberV s with
 | none=> .error 3
 | some (d,r)=>if r.headD 0≠44 then .error 3 else if primV d=0 then .error 8 else match argsV (r.length+1) (r.drop 1) [] with
  | .error e=> .error e
  | .ok l=>if fitsP (primV d) l.length=true then .ok ⟨3,primV d, [],l⟩ else .error 3
def blockV (s:List UInt8):Except Nat Blk:=
 if s= [48] then .ok {b0 with k:=1} else if s.take 2= [48,32] then .ok {b0 with k:=1,t:=s.drop 2} else if s.headD 0=36 then bvarV (s.drop 1) else bprimV s
def blocksN:List (List UInt8)→Nat→List Blk→Except (Nat × Nat) (List Blk)
 | [],_,acc=> .ok acc
 | s :: l,i,acc=>match blockV s with
  | .error e=> .error (i,e)
  | .ok b=>blocksN l (i+1) (acc++ [b])
def blocksV (l:List (List UInt8)):List Blk × Nat × Nat:=if 500 < l.length then ([],0,6) else match blocksN l 0 [] with
 | .error (i,e)=>([],i,e)
 | .ok b=>(b,0,0)
structure C where
 k:Int
 n:Int
 m:Int
 on:Bool
 t:List UInt8
 x:List UInt8
 y:List UInt8
 i:List UInt8
 j:List UInt8
 nums:List Int
 blocks:List Blk
deriving DecidableEq
def c0:C:=⟨0,0,0,false, [], [], [], [], [], [], []⟩
def kc (k:Int):C:={c0 with k:=k}
def countG (t:List UInt8):Option Nat:=if t.length < 1∨4 < t.length∨nd t≠t.length then none else some (val t)
def codeV (t:List UInt8):Option Nat:=if t.length < 2∨t.headD 0=48 then none else countG t
def headN (c:UInt8):Bool:=(decide (97≤c.toNat) && decide (c.toNat≤122))||(decide (65≤c.toNat) && decide (c.toNat≤90))|| c==95 || c==46 || c==36
def tailN (c:UInt8):Bool:=isD c || c==45
def nameV (t:List UInt8):Bool:=decide (1≤t.length) && (decide (t.length≤100) && (headN (t.headD 0) && (t.drop 1).all fun c=>headN c || tailN c))
def signN (r:List UInt8):Nat:=if r≠ []∧(r.headD 0=43∨r.headD 0=45) then 1 else 0
def coordG (t:List UInt8) (c:UInt8):List UInt8 × List UInt8:=
 if t≠ []∧t.headD 0=c then (
  if nd ((t.drop 1).drop (signN (t.drop 1)))< 1∨12 < nd ((t.drop 1).drop (signN (t.drop 1))) then ([],t)
  else ((t.drop 1).take (signN (t.drop 1)+nd ((t.drop 1).drop (signN (t.drop 1)))),(t.drop 1).drop (signN (t.drop 1)+nd ((t.drop 1).drop (signN (t.drop 1))))))
 else ([],t)
def opN (t:List UInt8):Int:=if t= [68,48,49] then 1 else if t= [68,48,50] then 2 else if t= [68,48,51] then 3 else 0
def opV (t:List UInt8):Option C:=
 let x:=coordG t 88
 let y:=coordG x.2 89
 let i:=coordG y.2 73
 let j:=coordG i.2 74
 if opN j.2=0 then none else some {kc 7 with n:=opN j.2,x:=x.1,y:=y.1,i:=i.1,j:=j.1}
def restV (t:List UInt8) (cs:List C):Except Nat (List C):=
 match (if t≠ []∧t.headD 0=68∧cs= [] then codeV (t.drop 1) else none) with
 | some n=> .ok [{kc 6 with n:=n}]
 | none=>match opV t with
  | none=> .error 3
  | some c=> .ok (cs++ [c])
def modeV (t:List UInt8) (n:Int):Except Nat (List C):=if t.drop 3= [] then .ok [{kc 2 with n:=n}] else restV (t.drop 3) [{kc 2 with n:=n}]
def plainV (t:List UInt8):Except Nat (List C):=
 if t= [71,51,54] then .ok [{kc 3 with on:=true}]
 else if t= [71,51,55] then .ok [kc 3]
 else if t= [71,55,52] then .error 8
 else if t= [71,55,53] then .ok [kc 4]
 else if t= [77,48,50] then .ok [kc 5]
 else if t.take 3= [71,48,52] then .ok [{kc 1 with t:=t.drop 3}]
 else if t.take 3= [71,48,49] then modeV t 1
 else if t.take 3= [71,48,50] then modeV t 2
 else if t.take 3= [71,48,51] then modeV t 3
 else restV t []
def fixedG:List (List UInt8 × C):=
 [([77,79,77,77],{kc 9 with n:=1}),([77,79,73,78],{kc 9 with n:=2}),([65,66],kc 12),([83,82],kc 14),([76,80,68],{kc 15 with on:=true}),([76,80,67],kc 15),([76,77,78],kc 16),([76,77,88],{kc 16 with n:=1}),([76,77,89],{kc 16 with n:=2}),([76,77,88,89],{kc 16 with n:=3})]
def formatV (t:List UInt8):Option C:=
 if t.length≠8∨(t.headD 0≠76∧t.headD 0≠84)∨(t.drop 1).take 2≠ [65,88]∨nd (t.drop 3)≠2∨(t.drop 5).headD 0≠89∨t.drop 6≠(t.drop 3).take 2 then none
 else some {kc 8 with on:=decide (t.headD 0=84),n:=(((t.drop 3).headD 0).toNat:Int) - 48,m:=(((t.drop 4).headD 0).toNat:Int) - 48}
def numsV:Nat→List UInt8→List Int→Option (List Int)
 | 0,_,acc=>some acc
 | f+1,s,acc=>match dec (cutB 88 s).1 with
  | none=>none
  | some v=>if (cutB 88 s).2.2=true then numsV f (cutB 88 s).2.1 (acc++ [v]) else some (acc++ [v])
def aperV (t:List UInt8):Option C:=
 if t.headD 0≠68 then none else match countA (t.drop 1) with
  | none=>none
  | some (n,r)=>if nameV (cutB 44 r).1=false then none else if (cutB 44 r).2.2=false then some {kc 10 with n:=n,t:=(cutB 44 r).1} else
   (match numsV (r.length+1) (cutB 44 r).2.1 [] with
    | none=>none
    | some l=>some {kc 10 with n:=n,t:=(cutB 44 r).1,nums:=l})
where countA (r:List UInt8):Option (Nat × List UInt8):=match codeV (r.take (nd r)) with
 | none=>none
 | some n=>some (n,r.drop (nd r))
def blkV (t:List UInt8):Option C:=if t.headD 0≠68 then none else match codeV (t.drop 1) with
 | none=>none
 | some n=>some {kc 11 with n:=n}
def stepG (t:List UInt8):Option C:=
 if t.headD 0≠88 then none else
 match countG (cutB 89 (t.drop 1)).1,countG (cutB 73 (cutB 89 (t.drop 1)).2.1).1,dec (cutB 74 (cutB 73 (cutB 89 (t.drop 1)).2.1).2.1).1,dec (cutB 74 (cutB 73 (cutB 89 (t.drop 1)).2.1).2.1).2.1 with
 | some n,some m,some x,some y=>some {kc 13 with n:=n,m:=m,nums:= [x,y]}
 | _,_,_,_=>none
def turnV (t:List UInt8):Option C:=match dec t with
 | none=>none
 | some v=>some {kc 17 with nums:= [v]}
def twoV (t:List UInt8):Option C:=
 if t.take 2= [70,83] then formatV (t.drop 2) else if t.take 2= [65,68] then aperV (t.drop 2) else if t.take 2= [65,66] then blkV (t.drop 2) else if t.take 2= [83,82] then stepG (t.drop 2) else if t.take 2= [76,82] then turnV (t.drop 2)
 else if t.take 2= [84,70]∨t.take 2= [84,65]∨t.take 2= [84,79]∨t.take 2= [84,68] then some {kc 18 with t:=t} else none
def extV (t:List UInt8):Except Nat C:=
 if t.take 2= [76,83] then .error 8 else match fixedG.lookup t with
  | some c=> .ok c
  | none=>match twoV t with
   | none=> .error 3
   | some c=> .ok c
def groupV (w:Wd) (ws:List Wd):Except (Nat × Nat) (List C):=
 if w.t.take 2≠ [65,77] then (match extV w.t with
  | .error e=> .error (w.a,e)
  | .ok c=>match ws with
   | []=> .ok [c]
   | x :: _=> .error (x.a,3))
 else if nameV (w.t.drop 2)=false then .error (w.a,3)
 else match blocksV (ws.map Wd.t) with
  |(b,i,e)=>if e≠0 then .error (((ws.map Wd.a)[i]?).getD 0,e) else .ok [{kc 19 with t:=w.t.drop 2,blocks:=b}]
def cmdsW (w:Wd) (ws:List Wd):Except (Nat × Nat) (List C):=
 if w.ext=true then groupV w ws else match plainV w.t with
  | .error e=> .error (w.a,e)
  | .ok l=> .ok l
def goG:Nat→List Wd→List (Nat × C)→Except (Nat × Nat) (List (Nat × C))
 | 0,_,acc=> .ok acc
 | _+1, [],acc=> .ok acc
 | f+1,w :: ws,acc=>match cmdsW w (ws.takeWhile fun x=>!x.first) with
  | .error e=> .error e
  | .ok l=>goG f (ws.dropWhile fun x=>!x.first) (acc++l.map fun c=>(w.a,c))
def parseG (s:List UInt8):List (Nat × C)× Nat × Nat:=match wordsV s with
 |(ws,i,e)=>if e≠0 then ([],i,e) else match goG ws.length ws [] with
  | .error (i,e)=>([],i,e)
  | .ok l=>(l,0,0)
end Go.Proofs.YtfldplmgkeiimaaGreatDoor.Gp
namespace Go.Proofs.YtfldplmgkeiimaaGreatDoor.Gp
open Go.Proofs.YtfldplmgkeiimaaGreatDoor.Dp
theorem goW_cons (c:UInt8) (r:List UInt8) (i:Nat) (s:Ws):goW (c :: r) i s=match takeW s c i with | .error e=> .error (i,e)| .ok s'=>goW r (i+1) s':=rfl
theorem go_append:∀(s t:List UInt8) (i:Nat) (st:Ws),goW (s++t) i st=match goW s i st with | .error x=> .error x | .ok st'=>goW t (i+s.length) st'
 | [],t,i,st=>by simp [goW]
 | c :: s,t,i,st=>by
  rw [List.cons_append,goW_cons,goW_cons]
  cases h:takeW st c i with
  | error e=>rfl
  | ok st'=>
   simp only []
   rw [go_append s t (i+1) st',List.length_cons,show i+1+s.length=i+(s.length+1) by omega]
def base (ws:List Wd) (a:Nat):Ws:=⟨ws, [],a,false,0⟩
def Closed (s:List UInt8):Prop:=∀i a ws,ws.length+s.count 42 < 20000→(∃x,goW s i (base ws a)= .error x)∨∃ws' a',goW s i (base ws a)= .ok (base ws' a')∧ws'.length≤ws.length+s.count 42
theorem Closed.nil:Closed []:=fun i a ws _=> .inr ⟨ws,a,rfl,Nat.le_refl _⟩
theorem Closed.append {s t:List UInt8} (hs:Closed s) (ht:Closed t):Closed (s++t):=by
 intro i a ws h
 rw [List.count_append] at h
 rw [go_append]
 rcases hs i a ws (by omega) with ⟨x,e⟩|⟨ws1,a1,e,h1⟩
 ·rw [e];exact .inl ⟨x,rfl⟩
 ·rw [e]
  simp only []
  rcases ht (i+s.length) a1 ws1 (by omega) with ⟨x,e2⟩|⟨ws2,a2,e2,h2⟩
  ·exact .inl ⟨x,e2⟩
  ·exact .inr ⟨ws2,a2,e2,by rw [List.count_append];omega⟩
def wc (c:UInt8):Bool:=decide (32≤c.toNat) && (decide (c.toNat≤126) && (c !=42 && c !=37))
end Go.Proofs.YtfldplmgkeiimaaGreatDoor.Gp
namespace Go.Proofs.YtfldplmgkeiimaaGreatDoor.Gp
open Go.Proofs.YtfldplmgkeiimaaGreatDoor.Dp
open Go.Proofs.YtfldplmgkeiimaaGreatDoor.Ep (parseV)
def sh (d:Nat) (w:Wd):Wd:={w with a:=w.a+d}
end Go.Proofs.YtfldplmgkeiimaaGreatDoor.Gp
namespace Go.Proofs.YtfldplmgkeiimaaGreatDoor.Gp
open Go.Proofs.YtfldplmgkeiimaaGreatDoor.Dp
open Go.Proofs.YtfldplmgkeiimaaGreatDoor.Ep (parseV St)
theorem goG_nil (f:Nat) (acc:List (Nat × C)):goG f [] acc= .ok acc:=by cases f <;> rfl
end Go.Proofs.YtfldplmgkeiimaaGreatDoor.Gp
namespace Go.Proofs.YtfldplmgkeiimaaGreatDoor.Vp
open Go.Proofs.YtfldplmgkeiimaaGreatDoor.Up (grainV)
open Go.Proofs.YtfldplmgkeiimaaGreatDoor.Fr (doV makeV evalV)
open Go.Proofs.YtfldplmgkeiimaaGreatDoor.Gp (Blk fitsP)
def discB (p:P2) (r:Int):Bs:={bs0 with k:=1,a:=p,r:=r}
def lineB (p q:P2) (r:Int):Bs:={bs0 with k:=3,a:=p,b:=q,r:=r}
def polyB (l:List (List P2)):Bs:={bs0 with k:=2,l:=l}
def formB:Bs:={bs0 with k:=6}
def simp_ (b:Bs):Shp:=⟨b, .nil⟩
def boxL (c:P2) (w h:Int):List P2:= [(c.1 - w,c.2 - h),(c.1+w,c.2 - h),(c.1+w,c.2+h),(c.1 - w,c.2+h)]
def sizeV (n d u:Int):Int × Nat:=
 if (doV 3 n d 0 1).2.2≠0 then (0,5)
 else if u≠1∧u≠2 then (0,5)
 else if (n *(if u=1 then 10000000 else 254000000)).tmod d≠0 then (0,7)
 else if (n *(if u=1 then 10000000 else 254000000)).tdiv d < -536870912∨536870912 <(n *(if u=1 then 10000000 else 254000000)).tdiv d then (0,5)
 else ((n *(if u=1 then 10000000 else 254000000)).tdiv d,0)
structure Tk where
 v:List (Int × Int)
 e:Nat
def Tk.fail (t:Tk) (e:Nat):Tk:=if t.e=0 then {t with e:=e} else t
def Tk.next (t:Tk):(Int × Int)× Tk:=(t.v.headD (0,0),{t with v:=t.v.drop 1})
def Tk.len (t:Tk) (u:Int):Int × Tk:=((sizeV t.next.1.1 t.next.1.2 u).1,t.next.2.fail (sizeV t.next.1.1 t.next.1.2 u).2)
def Tk.pt (t:Tk) (u:Int):P2 × Tk:=(((t.len u).1,((t.len u).2.len u).1),((t.len u).2.len u).2)
def Tk.half (t:Tk) (u:Int):Int × Tk:=
 let g:=(t.len u).1
 let t1:=if g < 0 then (t.len u).2.fail 4 else (t.len u).2
 (g.tdiv 2,if g.tmod 2≠0 then t1.fail 7 else t1)
def Tk.turn (t:Tk):Tn × Tk:=
 if t.v= [] then (tn0,t) else
 ({tn0 with q:=(t.next.1.1.tdiv 90).tmod 4},if t.next.1.2≠1∨t.next.1.1.tmod 90≠0 then t.next.2.fail 7 else t.next.2)
def Tk.pts (u:Int):Nat→Tk→List P2 × Tk
 | 0,t=>([],t)
 | n+1,t=>((t.pt u).1 ::(Tk.pts u n (t.pt u).2).1,(Tk.pts u n (t.pt u).2).2)
def Tk.prim (t:Tk) (k u:Int) (n:Nat):Shp × Bool × Tk:=
 if k=1 then
  let (r,t):=t.half u
  let (c,t):=t.pt u
  (simp_ (discB c r),decide (0 < r),t)
 else if k=20 then
  let (r,t):=t.half u
  let (a,t):=t.pt u
  let (b,t):=t.pt u
  (simp_ {bs0 with k:=4,a:=a,b:=b,r:=r},decide (0 < r) && decide (a≠b),t)
 else if k=21 then
  let (w,t):=t.half u
  let (h,t):=t.half u
  let (c,t):=t.pt u
  (simp_ (polyB [boxL c w h]),decide (0 < w) && decide (0 < h),t)
 else if k=4 then
  let v:=t.next.1
  let t:=if v.2≠1∨v.1 < 1∨500 < v.1∨2 *v.1+5≠(n:Int) then t.next.2.fail 4 else t.next.2
  let (l,t):=Tk.pts u ((n - 3)/ 2) t
  (simp_ (polyB [l.dropLast]),true,if l.getLast?≠l.head? then t.fail 4 else t)
 else if k=7 then
  let (c,t):=t.pt u
  let (o,t):=t.half u
  let (i,t):=t.half u
  let (g,t):=t.half u
  let t:=if o≤i∨o≤g then t.fail 4 else t
  (⟨formB, .cons true (discB c o) .nil
   ((if 0 < i then Ps.cons false (discB c i) .nil .nil else .nil).append
   (if 0 < g then .cons false (polyB [boxL c o g]) .nil (.cons false (polyB [boxL c g o]) .nil .nil) else .nil))⟩,true,t)
 else (sh0,true,t)
def partV (k u:Int) (v:List (Int × Int)):Ps × Nat:=
 let t:Tk:=⟨v,0⟩
 let add:=if k≠7 then decide (t.next.1.1=1) else true
 let t:=if k≠7 then (if t.next.1.2≠1∨(t.next.1.1≠0∧t.next.1.1≠1) then t.next.2.fail 4 else t.next.2) else t
 let p:=t.prim k u v.length
 let s:=p.2.2.turn
 if s.2.e≠0∨p.2.1=false then (.nil,s.2.e) else match applyV s.1 p.1 with
  | none=>(.nil,5)
  | some m=>(.one add m,0)
def valsV (vars:List (Int × Int)):List (List (Int × Int))→Except Nat (List (Int × Int))
 | []=> .ok []
 | a :: l=>if (evalV vars a).2.2≠0 then .error (evalV vars a).2.2 else match valsV vars l with
  | .error e=> .error e
  | .ok r=> .ok (((evalV vars a).1,(evalV vars a).2.1):: r)
def fitsB (b:Blk):Bool:=
 if b.k=1 then decide (b.n=0) && decide (b.args.length=0)
 else if b.k=2 then decide (1≤b.n) && (decide (b.n≤99) && decide (b.args.length=1))
 else if b.k=3 then fitsP b.n b.args.length
 else false
def formV (u:Int):List Blk→List (Int × Int)→Ps→Except Nat Ps
 | [],_,p=> .ok p
 | b :: l,vars,p=>match valsV vars b.args with
  | .error e=> .error e
  | .ok v=>if b.k=2 then formV u l (vars.set (b.n.toNat - 1) (v.headD (0,0))) p
   else if b.k=3 then (if (partV b.n u v).2≠0 then .error (partV b.n u v).2 else if 900 <(p.append (partV b.n u v).1).count+1 then .error 6 else formV u l vars (p.append (partV b.n u v).1))
   else formV u l vars p
def shapeV (l:List Blk) (args:List (Int × Int)) (u:Int):Except Nat Shp:=
 if 500 < l.length∨l.all fitsB=false then .error 3 else match formV u l ((args++List.replicate (99 - args.length) (0,1)).take 99) .nil with
  | .error e=> .error e
  | .ok p=> .ok ⟨formB,p⟩
structure Mac where
 name:List UInt8
 b:List Blk
def halvesV (s:Nat) (u:Int):List Int→Nat→Except Nat (List Int)
 | [],_=> .ok []
 | n :: l,i=>match grainV n u with
  | none=> .error 5
  | some g=>if g < 0∨(g=0∧s=2∧i < s) then .error 4 else if g.tmod 2≠0 then .error 7 else match halvesV s u l (i+1) with
   | .error e=> .error e
   | .ok r=> .ok (g.tdiv 2 :: r)
def argsM:List Int→Except Nat (List (Int × Int))
 | []=> .ok []
 | n :: l=>if (makeV n 1000000).2.2≠0 then .error (makeV n 1000000).2.2 else match argsM l with
  | .error e=> .error e
  | .ok r=> .ok (((makeV n 1000000).1,(makeV n 1000000).2.1):: r)
def lastM (name:List UInt8) (ms:List Mac):Option Mac:=ms.reverse.find? fun m=>m.name==name
def definedV (name:List UInt8) (nums:List Int) (u:Int) (ms:List Mac):Except Nat (Shp × Int):=match lastM name ms with
 | none=> .error 4
 | some m=>match argsM nums with
  | .error e=> .error e
  | .ok a=>match shapeV m.b a u with
   | .error e=> .error e
   | .ok s=> .ok (s,0)
def circV (r:Int):Bs:=if r=0 then formB else discB (0,0) r
def rectV (w h:Int):Bs:=polyB [[(-w,-h),(w,-h),(w,h),(-w,h)]]
def obrV (w h:Int):Bs:=if h < w then lineB (h - w,0) (w - h,0) h else if w < h then lineB (0,w - h) (0,h - w) w else discB (0,0) w
def holedV (b:Bs) (h:Int):Shp:=if 0 < h then ⟨formB, .cons true b .nil (.cons false (discB (0,0) h) .nil .nil)⟩ else simp_ b
def apV (name:List UInt8) (nums:List Int) (u:Int) (ms:List Mac):Except Nat (Shp × Int):=
 if name= [67]∨name= [82]∨name= [79] then
  let s:=if name= [67] then 1 else 2
  if nums.length≠s∧nums.length≠s+1 then .error 4 else match halvesV s u nums 0 with
   | .error e=> .error e
   | .ok h=>let g:=fun i=>h.getD i 0
    if name= [67] then .ok (holedV (circV (g 0)) (g 1),if g 1=0 then g 0 else 0)
    else if name= [82] then .ok (holedV (rectV (g 0) (g 1)) (g 2),0)
    else .ok (holedV (obrV (g 0) (g 1)) (g 2),0)
 else definedV name nums u ms
end Go.Proofs.YtfldplmgkeiimaaGreatDoor.Vp
