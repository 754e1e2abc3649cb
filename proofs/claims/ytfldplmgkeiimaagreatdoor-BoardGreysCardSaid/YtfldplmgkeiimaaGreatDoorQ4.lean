/-
  Several texts of this proof in one: Vc, Ve, Q0, Qa.
-/
import Derived.Test.YtfldplmgkeiimaaGreatDoorQ3
import Derived.Test.YtfldplmgkeiimaaGreatDoorQ1
import Derived.Test.YtfldplmgkeiimaaGreatDoorQ2
import Derived.Laws.ResultCell
set_option linter.unusedVariables false
set_option linter.unusedSimpArgs false
namespace Go.Proofs.YtfldplmgkeiimaaGreatDoor.Vp
open Go.Proofs.YtfldplmgkeiimaaGreatDoor.Up (grainV coordV fmtOk)
open Go.Proofs.YtfldplmgkeiimaaGreatDoor.Gp (Blk C parseG)
abbrev Ob:=Bool × Shp
structure Ap where
 sh:Shp
 r:Int
 round:Bool
 block:Bool
 objs:List Ob
structure Lv where
 step:Bool
 code:Int
 n:Int
 m:Int
 by_:P2
 objs:List Ob
def lv0:Lv:=⟨false,0,0,0,(0,0), []⟩
structure Pl where
 unit:Int
 fi:Int
 fd:Int
 ft:Bool
 formed:Bool
 apers:Int→Option Ap
 picked:Int
 macros:List Mac
 at_:P2
 mode:Int
 multi:Bool
 dark:Bool
 tn:Tn
 region:Bool
 conts:List (List P2)
 top:Lv
 levels:List Lv
 made:Int
 budget:Int
 ended:Bool
def pl0 (b:Int):Pl:=⟨0,0,0,false,false,fun _=>none,0, [],(0,0),1,false,true,tn0,false, [],lv0, [],0,min (max b 0) 100000,false⟩
def addO (p:Pl) (dark:Bool) (s:Shp):Except Nat Pl:=
 if okV s=false then .error 5 else if p.budget≤p.made then .error 6 else .ok {p with made:=p.made+1,top:={p.top with objs:=p.top.objs++ [(dark,s)]}}
def addT (p:Pl) (dark:Bool) (s:Shp) (t:Tn):Except Nat Pl:=match applyV t s with
 | none=> .error 5
 | some m=>addO p dark m
def addAll (f:Bool→Bool) (t:Tn):List Ob→Pl→Except Nat Pl
 | [],p=> .ok p
 | o :: l,p=>match addT p (f o.1) o.2 t with
  | .error e=> .error e
  | .ok q=>addAll f t l q
def takenV (p:Pl) (code:Int):Bool:=(p.apers code).isSome ||(p.top :: p.levels).dropLast.any fun v=>!v.step && decide (v.code=code)
def closedC (l:List (List P2)):Bool:=match l.getLast? with
 | none=>true
 | some c=>decide (4≤c.length) && decide (c.head?=c.getLast?)
def fillV (p:Pl):Except Nat Pl:=
 if closedC p.conts=false then .error 4
 else if 1000 <((p.conts.map List.dropLast).map List.length).sum then .error 6
 else if p.conts= [] then .ok {p with conts:= []}
 else addO {p with conts:= []} p.dark (simp_ (polyB (p.conts.map List.dropLast)))
def moveV (p:Pl) (to_:P2):Except Nat Pl:=
 if p.region=false then .ok p else if closedC p.conts=false then .error 4 else .ok {p with conts:=p.conts++ [[to_]]}
def flashV (p:Pl) (to_:P2):Except Nat Pl:=match p.apers p.picked with
 | none=> .error 4
 | some a=>if p.region=true then .error 4 else if a.block=false then addT p p.dark a.sh {p.tn with by_:=to_} else addAll (fun d=>decide (d=p.dark)) {p.tn with by_:=to_} a.objs p
def lastPush (l:List (List P2)) (q:P2):List (List P2):=l.dropLast++ [l.getLastD [] ++ [q]]
def drawV (p:Pl) (c:C) (to_ mid:P2):Except Nat Pl:=
 if p.mode≠1∧p.region=true then .error 8
 else if p.mode≠1∧p.multi=false then .error 4
 else if p.mode=1∧(c.i≠ []∨c.j≠ []) then .error 4
 else if p.region=true then (if p.conts= [] then .error 4 else .ok {p with conts:=lastPush p.conts to_})
 else match p.apers p.picked with
  | none=> .error 4
  | some a=>if a.round=false then .error 4
   else if p.mode=1 then (if a.r=0 then .ok p else addO p p.dark (simp_ (lineB p.at_ to_ a.r)))
   else
    let x:=if p.mode=2 then to_ else p.at_
    let y:=if p.mode=2 then p.at_ else to_
    let z:P2:=(p.at_.1+mid.1,p.at_.2+mid.2)
    if ringOk z x y=false then .error 9 else if a.r=0 then .ok p else addO p p.dark (simp_ {bs0 with k:=5,a:=x,b:=y,c:=z,r:=a.r})
def coordP (p:Pl) (s:List UInt8) (was:Int):Option Int:=if s= [] then some was else coordV s p.unit p.fi p.fd p.ft
def operV (p:Pl) (c:C):Except Nat Pl:=
 if p.unit=0∨p.formed=false then .error 4 else match coordP p c.x p.at_.1 with
 | none=> .error 5
 | some x=>match coordP p c.y p.at_.2 with
  | none=> .error 5
  | some y=>match coordP p c.i 0 with
   | none=> .error 5
   | some i=>match coordP p c.j 0 with
    | none=> .error 5
    | some j=>match (if c.n=1 then drawV p c (x,y) (i,j) else if c.n=2 then moveV p (x,y) else if c.n=3 then flashV p (x,y) else .error 4) with
     | .error e=> .error e
     | .ok q=> .ok {q with at_:=(x,y)}
def beginB (p:Pl) (c:C):Except Nat Pl:=
 if takenV p c.n=true then .error 4 else if 16≤p.levels.length then .error 6 else .ok {p with top:={lv0 with code:=c.n},levels:=p.top :: p.levels}
def numV (c:C) (i:Nat):Int:=c.nums.getD i 0
def beginS (p:Pl) (c:C):Except Nat Pl:=
 if (p.top :: p.levels).any (fun v=>v.step)=true then .error 4
 else if 16≤p.levels.length then .error 6
 else if c.n < 1∨c.m < 1∨numV c 0 < 0∨numV c 1 < 0 then .error 4
 else if 10000 < c.n∨10000 < c.m∨10000 < c.n *c.m then .error 6
 else if p.unit=0 then .error 4
 else match grainV (numV c 0) p.unit with
  | none=> .error 5
  | some x=>match grainV (numV c 1) p.unit with
   | none=> .error 5
   | some y=> .ok {p with top:={lv0 with step:=true,n:=c.n,m:=c.m,by_:=(x,y)},levels:=p.top :: p.levels}
def endB (p:Pl):Except Nat Pl:=match p.levels with
 | []=> .error 4
 | v :: l=>if p.top.step=true then .error 4 else .ok {p with top:=v,levels:=l,apers:=fun j=>if j=p.top.code then some ⟨sh0,0,false,true,p.top.objs⟩ else p.apers j}
def stepY (v:Lv) (x:Int):Nat→Int→Pl→Except Nat Pl
 | 0,_,p=> .ok p
 | k+1,y,p=>match addAll id {tn0 with by_:=(x *v.by_.1,y *v.by_.2)} v.objs p with
  | .error e=> .error e
  | .ok q=>stepY v x k (y+1) q
def stepX (v:Lv):Nat→Int→Pl→Except Nat Pl
 | 0,_,p=> .ok p
 | k+1,x,p=>match stepY v x v.m.toNat 0 p with
  | .error e=> .error e
  | .ok q=>stepX v k (x+1) q
def endS (p:Pl):Except Nat Pl:=match p.levels with
 | []=> .error 4
 | v :: l=>if p.top.step=false then .error 4 else stepX p.top p.top.n.toNat 0 {p with top:=v,levels:=l}
def aperV (p:Pl) (c:C):Except Nat Pl:=
 if p.unit=0∨takenV p c.n=true then .error 4 else match apV c.t c.nums p.unit p.macros with
  | .error e=> .error e
  | .ok (s,r)=> .ok {p with apers:=fun j=>if j=c.n then some ⟨s,r,decide (c.t= [67]) && (decide (c.nums.length=1)|| decide (c.nums.getD 1 0=0)),false, []⟩ else p.apers j}
def defineV (p:Pl) (c:C):Except Nat Pl:=
 if c.k=8 then (if p.formed=true∨fmtOk 1 c.n c.m=false then .error 4 else .ok {p with fi:=c.n,fd:=c.m,ft:=c.on,formed:=true})
 else if c.k=9 then (if p.unit≠0 then .error 4 else .ok {p with unit:=c.n})
 else if c.k=19 then (if p.macros.any (fun m=>m.name==c.t)=true then .error 4 else .ok {p with macros:=p.macros++ [⟨c.t,c.blocks⟩]})
 else aperV p c
def setV (p:Pl) (c:C):Except Nat Pl:=
 if c.k=2 then .ok {p with mode:=c.n}
 else if c.k=4 then .ok {p with multi:=true}
 else if c.k=6 then (if (p.apers c.n).isSome=false then .error 4 else .ok {p with picked:=c.n})
 else if c.k=15 then .ok {p with dark:=c.on}
 else if c.k=16 then .ok {p with tn:={p.tn with mx:=decide (c.n=1)|| decide (c.n=3),my:=decide (c.n=2)|| decide (c.n=3)}}
 else if (numV c 0).tmod 90000000≠0 then .error 7 else .ok {p with tn:={p.tn with q:=((numV c 0).tdiv 90000000).tmod 4}}
def doP (p:Pl) (c:C):Except Nat Pl:=
 if p.ended=true then .error 4
 else if p.region=true∧(c.k=6∨(11≤c.k∧c.k≤17)) then .error 4
 else if c.k=1∨c.k=18 then .ok p
 else if c.k=8∨c.k=9∨c.k=10∨c.k=19 then defineV p c
 else if c.k=2∨c.k=4∨c.k=6∨c.k=15∨c.k=16∨c.k=17 then setV p c
 else if c.k=3 then (if p.region=c.on then .error 4 else if c.on=true then .ok {p with region:=true} else fillV {p with region:=false})
 else if c.k=7 then operV p c
 else if c.k=11 then beginB p c
 else if c.k=13 then beginS p c
 else if c.k=12 then endB p
 else if c.k=14 then endS p
 else if c.k=5 then (if p.region=true∨p.levels≠ [] then .error 4 else .ok {p with ended:=true})
 else .error 4
def runP:List C→Nat→Pl→Except (Nat × Nat) Pl
 | [],_,p=> .ok p
 | c :: l,i,p=>match doP p c with
  | .error e=> .error (i,e)
  | .ok q=>runP l (i+1) q
def plotV (l:List C) (b:Int):List Ob × Nat × Nat:=match runP l 0 (pl0 b) with
 | .error (i,e)=>([],i,e)
 | .ok p=>if p.ended=false then ([],l.length,11) else (p.top.objs,0,0)
def fileV (s:List UInt8) (b:Int):List Ob × Nat × Nat:=match parseG s with
 |(l,a,e)=>if e≠0 then ([],a,e) else match plotV (l.map Prod.snd) b with
  |(o,i,f)=>if f=0 then (o,0,0) else if i < l.length then ([],((l.map Prod.fst)[i]?).getD 0,f) else ([],s.length,f)
end Go.Proofs.YtfldplmgkeiimaaGreatDoor.Vp
namespace Go.Proofs.YtfldplmgkeiimaaGreatDoor.Vp
def pileC (l:List Ob) (x:Bx):Int:=l.foldl (fun k o=>foldV k (classV x o.2) o.1) 0
structure Vw where
 x:Int
 y:Int
 pitch:Int
 w:Int
 h:Int
 depth:Int
deriving DecidableEq
def viewOk (v:Vw):Bool:=
 if v.depth < 0∨6 < v.depth then false
 else if v.pitch < 1∨536870912 < v.pitch∨v.pitch % (2 ^ v.depth.toNat)≠0 then false
 else if v.w < 1∨256 < v.w∨v.h < 1∨256 < v.h then false
 else if v.x < -536870912∨536870912 < v.x∨v.y < -536870912∨536870912 < v.y then false
 else okB ⟨v.x,v.y,v.x+v.w *v.pitch,v.y+v.h *v.pitch⟩
def pixelV (v:Vw) (x y:Nat):Bx:=⟨v.x+x *v.pitch,v.y+(v.h - 1 - y) *v.pitch,v.x+x *v.pitch+v.pitch,v.y+(v.h - 1 - y) *v.pitch+v.pitch⟩
def cellsV (v:Vw):Int:=4 ^ v.depth.toNat
abbrev Cv:=Int × Int
structure Ex where
 o:Ob
 b:Bx
 any:Bool
def hasBarP:Ps→Bool
 | .nil=>false
 | .cons _ b s r=>(decide (b.k=4)|| hasBarP s)|| hasBarP r
def hasBarS (s:Shp):Bool:=decide (s.b.k=4)|| hasBarP s.p
def reachO (l:List Ob):List Ex:=l.filterMap fun o=>(boundsS o.2).map fun b=>⟨o,b,hasBarS o.2⟩
def nearE (g:List Ex) (b:Bx):List Ex:=g.filter fun e=>e.any || !apartV e.b b
def examV:Nat→List Ex→Bx→Int→Option Cv × Int
 | 0,g,b,m=>if m≤0 then (none,m - 1) else
  let k:=pileC (g.map Ex.o) b
  (some (if k=0 then (0,0) else if k=2 then (1,1) else (0,1)),m - 1)
 | d+1,g,b,m=>if m≤0 then (none,m - 1) else
  let k:=pileC (g.map Ex.o) b
  if k=0 then (some (0,0),m - 1)
  else if k=2 then (some (4 ^(d+1),4 ^(d+1)),m - 1)
  else (splitB b).foldl (fun (s:Option Cv × Int) q=>match s with
   |(none,m)=>(none,m)
   |(some c,m)=>match examV d (nearE g q) q m with
    |(none,m)=>(none,m)
    |(some e,m)=>(some (c.1+e.1,c.2+e.2),m)) (some (0,0),m - 1)
def rowV (v:Vw) (g:List Ex) (y:Nat):Nat→Nat→List Cv→Int→Option (List Cv)× Int
 | 0,_,acc,m=>(some acc,m)
 | k+1,x,acc,m=>match examV v.depth.toNat (nearE g (pixelV v x y)) (pixelV v x y) m with
  |(none,m)=>(none,m)
  |(some c,m)=>rowV v g y k (x+1) (acc++ [c]) m
def spanV (v:Vw) (y:Nat):Bx:=⟨(pixelV v 0 y).x0,(pixelV v 0 y).y0,(pixelV v (v.w.toNat - 1) y).x1,(pixelV v (v.w.toNat - 1) y).y1⟩
def rowsV (v:Vw) (g:List Ex):Nat→Nat→List Cv→Int→Option (List Cv)× Int
 | 0,_,acc,m=>(some acc,m)
 | k+1,y,acc,m=>match rowV v (nearE g (spanV v y)) y v.w.toNat 0 acc m with
  |(none,m)=>(none,m)
  |(some a,m)=>rowsV v g k (y+1) a m
def rastV (l:List Ob) (v:Vw) (m:Int):Option (List Cv)× Int:=rowsV v (reachO l) v.h.toNat 0 [] m
def startV (c:Int):Int × Int:=(65536 *max 0 (min c 255),65536 *max 0 (min c 255))
def okTone (t:Int × Int):Bool:=decide (0≤t.1) && (decide (t.1≤t.2) && decide (t.2≤16711680))
def okCov (v:Cv) (cells:Int):Bool:=decide (1≤cells) && (decide (cells≤4096) && (decide (0≤v.1) && (decide (v.1≤v.2) && decide (v.2≤cells))))
def layV (t:Int) (c al k cells:Int):Int:=t *(255 *cells - al *k)+65536 *c *(al *k)
def leastV (t:Int × Int) (c al:Int) (v:Cv) (cells:Int):Int:=min (min (min (layV t.1 c al v.1 cells) (layV t.2 c al v.1 cells)) (layV t.1 c al v.2 cells)) (layV t.2 c al v.2 cells)
def mostV (t:Int × Int) (c al:Int) (v:Cv) (cells:Int):Int:=max (max (max (layV t.1 c al v.1 cells) (layV t.2 c al v.1 cells)) (layV t.1 c al v.2 cells)) (layV t.2 c al v.2 cells)
def byteV (t:Int × Int):Int:=if okTone t=true then (t.1+t.2+65536)/ 131072 else 0
def greyV (v:Cv) (cells:Int):Int:=if okCov v cells=true then (255 *(v.1+v.2)+cells)/(2 *cells) else 0
end Go.Proofs.YtfldplmgkeiimaaGreatDoor.Vp
namespace Go.Proofs.YtfldplmgkeiimaaGreatDoor.VW
open Go.RowKit Go.Proofs.YtfldplmgkeiimaaGreatDoor.Vp
theorem far0 {w:World} {k i j:Nat} {u:Value} (h:k≠j):(w.setCell ⟨j,i,none⟩ u).heap[k]?=w.heap[k]?:=Below.heap_setCell _ _ _ _ h
theorem ssz0 (w:World) (a:Addr) (u:Value):(w.setCell a u).heap.size=w.heap.size:=by simp [World.setCell]
theorem cell_of {w:World} {k i:Nat} {cs:Array Value} {t:TypeId} {v:Value} (h:w.heap[k]?=some (.cells cs t)) (hv:cs[i]?=some v):w.cell? ⟨k,i,none⟩=some v:=by
 simp [World.cell?,h,hv]
def putW (w:World) (b:Nat):Nat→List Value→World
 | _, []=>w
 | m,v :: vs=>putW (w.setCell ⟨b,m,none⟩ v) b (m+1) vs
def putA (cs:Array Value):Nat→List Value→Array Value
 | _, []=>cs
 | m,v :: vs=>putA (cs.setIfInBounds m v) (m+1) vs
theorem putW_at {b:Nat} {t:TypeId}:∀(vs:List Value) {w:World} {cs:Array Value} {m:Nat},w.heap[b]?=some (.cells cs t)→(putW w b m vs).heap[b]?=some (.cells (putA cs m vs) t)
 | [],_,_,_,h=>h
 | v :: vs,_,_,_,h=>putW_at vs (set_at v h)
theorem putW_far {b k:Nat} (hk:k≠b):∀(vs:List Value) {w:World} {m:Nat},(putW w b m vs).heap[k]?=w.heap[k]?
 | [],_,_=>rfl
 | v :: vs,_,_=>(putW_far hk vs).trans (far0 hk)
theorem putW_keep {S:Nat→Prop} {b:Nat} (hb:¬S b):∀(vs:List Value) {w:World} {m:Nat},Keep S w (putW w b m vs)
 | [],_,_=> .refl _ _
 | v :: vs,w,m=>(Keep.set (a:=⟨b,m,none⟩) hb v).trans (putW_keep hb vs)
theorem putW_below {B:Nat} {b:Nat} (hb:B≤b):∀(vs:List Value) {w0 w:World} {m:Nat},Below B w0 w→Below B w0 (putW w b m vs)
 | [],_,_,_,h=>h
 | v :: vs,_,_,m,h=>putW_below hb vs (h.setCell (p:=⟨b,m,none⟩) hb v)
theorem putA_size:∀(vs:List Value) (cs:Array Value) (m:Nat),(putA cs m vs).size=cs.size
 | [],_,_=>rfl
 | v :: vs,cs,m=>(putA_size vs _ _).trans (by simp)
theorem putA_lt:∀(vs:List Value) (cs:Array Value) (m i:Nat),i < m→(putA cs m vs)[i]?=cs[i]?
 | [],_,_,_,_=>rfl
 | v :: vs,cs,m,i,h=>(putA_lt vs _ _ _ (by omega)).trans (Array.getElem?_setIfInBounds_ne (by omega))
theorem putA_in:∀(vs:List Value) (cs:Array Value) (m i:Nat),i < vs.length→m+vs.length≤cs.size→(putA cs m vs)[m+i]?=vs[i]?
 | [],_,_,_,h,_=>absurd h (Nat.not_lt_zero _)
 | v :: vs,cs,m,0,h,hs=>(putA_lt vs _ _ _ (by omega)).trans (by rw [Nat.add_zero,Array.getElem?_setIfInBounds_self_of_lt (by simp only [List.length_cons] at hs;omega)];rfl)
 | v :: vs,cs,m,i+1,h,hs=>by
  have:=putA_in vs (cs.setIfInBounds m v) (m+1) i (by simpa using h) (by simp only [List.length_cons,Array.size_setIfInBounds] at hs⊢;omega)
  rw [show m+(i+1)=m+1+i by omega]
  exact this
theorem putA_take {vs:List Value} {cs:Array Value} {m n:Nat} (h:n≤m):(putA cs m vs).toList.take n=cs.toList.take n:=by
 apply List.ext_getElem?
 intro i
 rw [List.getElem?_take,List.getElem?_take]
 split
 ·have h1:=putA_lt vs cs m i (by omega)
  simpa using h1
 ·rfl
theorem putA_drop {vs:List Value} {cs:Array Value} {m:Nat} (h:m+vs.length≤cs.size):((putA cs m vs).toList.drop m).take vs.length=vs:=by
 apply List.ext_getElem?
 intro i
 rw [List.getElem?_take]
 split
 ·rename_i hi
  have h1:=putA_in vs cs m i hi h
  rw [List.getElem?_drop]
  simpa using h1
 ·rename_i hi
  rw [List.getElem?_eq_none (by omega)]
theorem putA_all {vs:List Value} {cs:Array Value} (h:vs.length=cs.size):putA cs 0 vs=vs.toArray:=by
 apply Array.ext_getElem?
 intro i
 by_cases hi:i < vs.length
 ·have:=putA_in vs cs 0 i hi (by omega)
  rw [Nat.zero_add] at this
  rw [this]
  simp
 ·rw [Array.getElem?_eq_none (by rw [putA_size];omega),Array.getElem?_eq_none (by simp;omega)]
theorem putW_all {b:Nat} {t:TypeId} (vs:List Value) {w:World} {cs:Array Value} (h:w.heap[b]?=some (.cells cs t)) (hl:vs.length=cs.size):(putW w b 0 vs).heap[b]?=some (.cells vs.toArray t):=by
 rw [putW_at vs h,putA_all hl]
theorem PartsAt.congr {S:Nat→Prop} {w:World}:∀{s:Ps} {xs ys:List Value},PartsAt S w s xs→xs.take (s.len *11)=ys.take (s.len *11)→PartsAt S w s ys
 | .nil,_,_,_,_=>trivial
 | .cons a b s r,xs,ys,h,e=>by
  obtain ⟨⟨pl,cl,pp,cp,h1,h2⟩,h6⟩:=h
  have e1:xs.take 11=ys.take 11:=by
   have:=congrArg (List.take 11) e
   rw [List.take_take,List.take_take,Nat.min_eq_left (by simp only [Ps.len];omega)] at this
   exact this
  have e2:(xs.drop 11).take (r.len *11)=(ys.drop 11).take (r.len *11):=by
   have:=congrArg (List.drop 11) e
   rw [List.drop_take,List.drop_take,show (Ps.cons a b s r).len *11 - 11=r.len *11 by simp only [Ps.len];omega] at this
   exact this
  exact ⟨⟨pl,cl,pp,cp,by rw [←e1];exact h1,h2⟩,PartsAt.congr h6 e2⟩
end Go.Proofs.YtfldplmgkeiimaaGreatDoor.VW
namespace Go.Proofs.YtfldplmgkeiimaaGreatDoor.VW
open Go.RowKit Go.Proofs.YtfldplmgkeiimaaGreatDoor.Vp
theorem cell_keep {v Z:World} (hb:Below v.heap.size v Z) {k i:Nat} {x:Value} (h:v.cell? ⟨k,i,none⟩=some x):Z.cell? ⟨k,i,none⟩=some x:=by
 have hk:k < v.heap.size:=by
  by_cases hk:k < v.heap.size
  ·exact hk
  ·have:v.heap[k]?=none:=Array.getElem?_eq_none (by omega)
   simp [World.cell?,this] at h
 have:=hb.block k hk
 simpa [World.cell?,this] using h
theorem results_cell_tmp_row {P:Program} {fn:Func} {p u:Tmp} {ty:TypeId} (h:fn.results= #[.cell p ty, .tmp u]) (tmps:Array Value) (w:World) (g:Nat) (t:TypeId) (cs:Array Value) (fr:Nat × Nat) (d:TypeDesc)
  (hp:tmps.getD p undef= .pointer (some ⟨g,0,none⟩)) (hg:w.heap[g]?=some (.cells cs t fr))
  (hu:P.underlying ty=some d) (hd:(match d with | .struct _ | .array _ _=>true | _=>false)=true) (hi:(P.info? ty).map (·.size)=some cs.size):
  (results fn tmps).run P w= .ok (.tuple #[.agg cs,tmps.getD u undef]) w:=by
 rw [results_cell_tmp h,hp]
 simp only [asAddr,Sem.run_pure,Result.andThen_ok,run_loadVar_row w g t ty cs fr d hg hu hd hi]
theorem bool_eq {a b c:Bool} (h:(a=true↔b=true)) (e:b=c):a=c:=e ▸ Bool.eq_iff_iff.2 h
theorem bel1 (w:World) (o:Obj):Below w.heap.size w (w.alloc o):=bel_alloc w o
theorem bel2 (w:World) (o p:Obj):Below w.heap.size w ((w.alloc o).alloc p):=(bel_alloc w o).alloc (by simp) _
theorem bel3 (w:World) (o p q:Obj):Below w.heap.size w (((w.alloc o).alloc p).alloc q):=(bel2 w o p).alloc (by simp;omega) _
theorem within_c (v:Int) (f:Bool) (hf:Hid (wiV v=f)) (w:World):Calls Tryz.prog 121 #[.int .i64 v] w fun e w'=>e= .returned (.bool f)∧w'=w:=by
 go_enter Tryz.func121,Tryz.ntmps121
 go_wp2_with fail
 all_goals
  go_ret
  refine ⟨ret_b (bool_eq ⟨fun h=>?_,fun h=>?_⟩ hf.out),rfl⟩<;> simp only [wiV,Bool.and_eq_true,decide_eq_true_eq,Bool.false_eq_true] at h⊢<;> omega
set_option maxHeartbeats 1600000 in
theorem bok_c (b:Bx) (f:Bool) (hf:Hid (okB b=f)) (w:World):Calls Tryz.prog 83 #[bxV b] w fun e w'=>e= .returned (.bool f)∧Below w.heap.size w w':=by
 obtain ⟨x0,y0,x1,y1⟩:=b
 have h:=hf.out
 clear hf
 unfold okB at h
 simp only at h
 obtain ⟨f0,h0⟩:∃f,wiV x0=f:=⟨_,rfl⟩
 obtain ⟨f1,h1⟩:∃f,wiV y0=f:=⟨_,rfl⟩
 obtain ⟨f2,h2⟩:∃f,wiV x1=f:=⟨_,rfl⟩
 obtain ⟨f3,h3⟩:∃f,wiV y1=f:=⟨_,rfl⟩
 rw [h0,h1,h2,h3] at h
 have H0:=Lib.hid h0
 have H1:=Lib.hid h1
 have H2:=Lib.hid h2
 have H3:=Lib.hid h3
 clear h0 h1 h2 h3
 by_cases c0:x0≤x1
 case neg=>
  have HF:Hid (false=f):=by show _=_;rw [←h,decide_eq_false c0];rfl
  clear h
  go_enter Tryz.func83,Tryz.ntmps83
  go_wp2_with fail
  go_ret
  exact ⟨ret_b HF.out,bel1 _ _⟩
 by_cases c1:y0≤y1
 case neg=>
  have HF:Hid (false=f):=by show _=_;rw [←h,decide_eq_false c1];simp
  clear h
  go_enter Tryz.func83,Tryz.ntmps83
  go_wp2_with fail
  go_ret
  exact ⟨ret_b HF.out,bel1 _ _⟩
 have HF:Hid ((f0 && (f1 && (f2 && f3)))=f):=by show _=_;rw [←h,decide_eq_true c0,decide_eq_true c1];rfl
 clear h
 go_enter Tryz.func83,Tryz.ntmps83
 go_wp2_with fail
 with_reducible refine (within_c _ _ H0 _).mono ?_
 rintro e w1 ⟨rfl,rfl⟩
 cases f0 with
 | false=>
  go_wp2_with fail
  go_ret
  exact ⟨ret_b HF.out,bel1 _ _⟩
 | true=>
  go_wp2_with fail
  with_reducible refine (within_c _ _ H1 _).mono ?_
  rintro e w1 ⟨rfl,rfl⟩
  cases f1 with
  | false=>
   go_wp2_with fail
   go_ret
   exact ⟨ret_b HF.out,bel1 _ _⟩
  | true=>
   go_wp2_with fail
   with_reducible refine (within_c _ _ H2 _).mono ?_
   rintro e w1 ⟨rfl,rfl⟩
   cases f2 with
   | false=>
    go_wp2_with fail
    go_ret
    exact ⟨ret_b HF.out,bel1 _ _⟩
   | true=>
    go_wp2_with fail
    with_reducible refine (within_c _ _ H3 _).mono ?_
    rintro e w1 ⟨rfl,rfl⟩
    go_wp2_with fail
    go_ret
    exact ⟨ret_b HF.out,bel1 _ _⟩
set_option maxHeartbeats 1600000 in
theorem bhas_c (b:Bx) (p:P2) (f:Bool) (hf:Hid ((decide (b.x0≤p.1) && (decide (p.1≤b.x1) && (decide (b.y0≤p.2) && decide (p.2≤b.y1))))=f)) (w:World):Calls Tryz.prog 269 #[bxV b,ptV2 p] w fun e w'=>e= .returned (.bool f)∧Below w.heap.size w w':=by
 obtain ⟨x0,y0,x1,y1⟩:=b
 obtain ⟨px,py⟩:=p
 go_enter Tryz.func269,Tryz.ntmps269
 go_wp2_with fail
 all_goals
  go_ret
  refine ⟨ret_b (bool_eq ⟨fun h=>?_,fun h=>?_⟩ hf.out),bel2 _ _ _⟩<;> simp only [Bool.and_eq_true,decide_eq_true_eq,Bool.false_eq_true] at h⊢<;> omega
set_option maxHeartbeats 1600000 in
theorem empty_c (b:Bx) (f:Bool) (hf:Hid (emptyB b=f)) (w:World):Calls Tryz.prog 171 #[bxV b] w fun e w'=>e= .returned (.bool f)∧Below w.heap.size w w':=by
 obtain ⟨x0,y0,x1,y1⟩:=b
 go_enter Tryz.func171,Tryz.ntmps171
 go_wp2_with fail
 all_goals
  go_ret
  refine ⟨ret_b (bool_eq ⟨fun h=>?_,fun h=>?_⟩ hf.out),bel1 _ _⟩<;> simp only [emptyB,Bool.or_eq_true,decide_eq_true_eq,Bool.false_eq_true] at h⊢<;> omega
theorem cells_f0 {w:World} {k:Nat} {cs:Array Value} {t:TypeId} (h:w.heap[k]?=some (.cells cs t)) (i:Nat):w.frozen? ⟨k,i,none⟩=false:=by
 simp [World.frozen?,h]
theorem bx_at {w:World} {k:Nat} {x0 y0 x1 y1:Int} (h:w.heap[k]?=some (bxO ⟨x0,y0,x1,y1⟩)):w.cell? ⟨k,0,none⟩=some (.int .i64 x0)∧w.cell? ⟨k,1,none⟩=some (.int .i64 y0)∧w.cell? ⟨k,2,none⟩=some (.int .i64 x1)∧w.cell? ⟨k,3,none⟩=some (.int .i64 y1):=by
 refine ⟨?_,?_,?_,?_⟩<;> simp [World.cell?,h]
set_option maxHeartbeats 3200000 in
theorem bapart_c (a b:Bx) (f:Bool) (hf:Hid (apartV a b=f)) (w:World):Calls Tryz.prog 124 #[bxV a,bxV b] w fun e w'=>e= .returned (.bool f)∧Below w.heap.size w w':=by
 obtain ⟨e0,h0⟩:∃f,emptyB a=f:=⟨_,rfl⟩
 obtain ⟨e1,h1⟩:∃f,emptyB b=f:=⟨_,rfl⟩
 have h:=hf.out
 clear hf
 unfold apartV at h
 rw [h0,h1] at h
 obtain ⟨x0,y0,x1,y1⟩:=a
 obtain ⟨u0,v0,u1,v1⟩:=b
 simp only at h
 have H0:=Lib.hid h0
 have H1:=Lib.hid h1
 have HH:=Lib.hid h
 clear h0 h1 h
 go_enter Tryz.func124,Tryz.ntmps124
 go_upto_region 1 with fail
 obtain ⟨W,hW⟩:∃W,(w.alloc (bxO ⟨x0,y0,x1,y1⟩)).alloc (bxO ⟨u0,v0,u1,v1⟩)=W:=⟨_,rfl⟩
 have HB:Hid (Below w.heap.size w W):=by show Below _ _ _;rw [←hW];exact bel2 _ _ _
 have HA:Hid (W.heap[w.heap.size]?=some (bxO ⟨x0,y0,x1,y1⟩)):=by show _=_;rw [←hW];exact one_below (alloc_new _ _) (bel_alloc _ _)
 have HC:Hid (W.heap[w.heap.size+1]?=some (bxO ⟨u0,v0,u1,v1⟩)):=by show _=_;rw [←hW,←alloc_size w (bxO ⟨x0,y0,x1,y1⟩)];exact alloc_new _ _
 rw [hW]
 clear hW
 obtain ⟨a0,a1,a2,a3⟩:=bx_at HA.out
 obtain ⟨b0,b1,b2,b3⟩:=bx_at HC.out
 go_wp2_with fail
 with_reducible refine (empty_c ⟨x0,y0,x1,y1⟩ _ H0 _).mono ?_
 rintro e W1 ⟨rfl,hb1⟩
 have HB1:Hid (Below w.heap.size w W1):=HB.out.trans (hb1.mono HB.out.size)
 have HA1:=Lib.hid (one_below HA.out hb1)
 have HC1:=Lib.hid (one_below HC.out hb1)
 clear a0 a1 a2 a3 b0 b1 b2 b3 hb1
 obtain ⟨a0,a1,a2,a3⟩:=bx_at HA1.out
 obtain ⟨b0,b1,b2,b3⟩:=bx_at HC1.out
 cases e0 with
 | true=>
  have HF:Hid (true=f):=by show _=_;rw [←HH.out];rfl
  go_wp2_with fail
  go_ret
  exact ⟨ret_b HF.out,HB1.out⟩
 | false=>
  go_wp2_with fail
  with_reducible refine (empty_c ⟨u0,v0,u1,v1⟩ _ H1 _).mono ?_
  rintro e W2 ⟨rfl,hb2⟩
  have HB2:Hid (Below w.heap.size w W2):=HB1.out.trans (hb2.mono HB1.out.size)
  have HA2:=Lib.hid (one_below HA1.out hb2)
  have HC2:=Lib.hid (one_below HC1.out hb2)
  clear a0 a1 a2 a3 b0 b1 b2 b3 hb2
  obtain ⟨a0,a1,a2,a3⟩:=bx_at HA2.out
  obtain ⟨b0,b1,b2,b3⟩:=bx_at HC2.out
  cases e1 with
  | true=>
   have HF:Hid (true=f):=by show _=_;rw [←HH.out];rfl
   go_wp2_with fail
   go_ret
   exact ⟨ret_b HF.out,HB2.out⟩
  | false=>
   go_wp2_with fail
   all_goals
    go_ret
    refine ⟨ret_b (bool_eq ⟨fun h=>?_,fun h=>?_⟩ HH.out),HB2.out⟩<;> simp only [Bool.or_eq_true,decide_eq_true_eq,Bool.false_eq_true,false_or] at h⊢<;>(try simp only [false_or] at h)<;> first | omega |(trace_state;fail)
def near30 (p:P2):Prop:=(-536870912≤p.1∧p.1≤536870912)∧-536870912≤p.2∧p.2≤536870912
theorem mul30 {a b:Int} (ha:-1073741824≤a∧a≤1073741824) (hb:-1073741824≤b∧b≤1073741824):-1152921504606846976≤a *b∧a *b≤1152921504606846976:=by
 have h1:0≤(1073741824 - a) *(1073741824+b):=Int.mul_nonneg (by omega) (by omega)
 have h2:0≤(1073741824+a) *(1073741824 - b):=Int.mul_nonneg (by omega) (by omega)
 have h3:0≤(1073741824 - a) *(1073741824 - b):=Int.mul_nonneg (by omega) (by omega)
 have h4:0≤(1073741824+a) *(1073741824+b):=Int.mul_nonneg (by omega) (by omega)
 have e1:(1073741824 - a) *(1073741824+b)=1152921504606846976+1073741824 *b - 1073741824 *a - a *b:=by grind
 have e2:(1073741824+a) *(1073741824 - b)=1152921504606846976 - 1073741824 *b+1073741824 *a - a *b:=by grind
 have e3:(1073741824 - a) *(1073741824 - b)=1152921504606846976 - 1073741824 *b - 1073741824 *a+a *b:=by grind
 have e4:(1073741824+a) *(1073741824+b)=1152921504606846976+1073741824 *b+1073741824 *a+a *b:=by grind
 omega
set_option maxHeartbeats 1600000 in
theorem cross_c (o a b:P2) (ho:near30 o) (ha:near30 a) (hb:near30 b) (f:Int) (hf:Hid (crossV o a b=f)) (w:World):Calls Tryz.prog 311 #[ptV2 o,ptV2 a,ptV2 b] w fun e w'=>e= .returned (.int .i64 f)∧Below w.heap.size w w':=by
 obtain ⟨ox,oy⟩:=o
 obtain ⟨ax,ay⟩:=a
 obtain ⟨bx,b_y⟩:=b
 unfold near30 at ho ha hb
 simp only at ho ha hb
 have m1:=mul30 (a:=ax - ox) (b:=b_y - oy) (by omega) (by omega)
 have m2:=mul30 (a:=ay - oy) (b:=bx - ox) (by omega) (by omega)
 have w1:IntKind.i64.wrap (ax - ox)=ax - ox:=IntWalk.i64_in _ (by omega)
 have w2:IntKind.i64.wrap (b_y - oy)=b_y - oy:=IntWalk.i64_in _ (by omega)
 have w3:IntKind.i64.wrap (ay - oy)=ay - oy:=IntWalk.i64_in _ (by omega)
 have w4:IntKind.i64.wrap (bx - ox)=bx - ox:=IntWalk.i64_in _ (by omega)
 have w5:IntKind.i64.wrap ((ax - ox) *(b_y - oy))=(ax - ox) *(b_y - oy):=IntWalk.i64_in _ (by omega)
 have w6:IntKind.i64.wrap ((ay - oy) *(bx - ox))=(ay - oy) *(bx - ox):=IntWalk.i64_in _ (by omega)
 have w7:IntKind.i64.wrap ((ax - ox) *(b_y - oy) -(ay - oy) *(bx - ox))=(ax - ox) *(b_y - oy) -(ay - oy) *(bx - ox):=IntWalk.i64_in _ (by omega)
 clear m1 m2 ho ha hb
 go_enter Tryz.func311,Tryz.ntmps311
 go_wp2_with fail
 go_ret
 exact ⟨ret_i hf.out,bel3 _ _ _ _⟩
theorem second_new (w:World) (o p:Obj):((w.alloc o).alloc p).heap[w.heap.size+1]?=some p:=by rw [←alloc_size w o];exact alloc_new _ _
abbrev corV (b:Bx):Value:= .agg #[.int .i64 b.x0, .int .i64 b.y0, .int .i64 b.x1, .int .i64 b.y0, .int .i64 b.x0, .int .i64 b.y1, .int .i64 b.x1, .int .i64 b.y1]
set_option maxHeartbeats 1600000 in
theorem corners_c (b:Bx) (w:World):Calls Tryz.prog 274 #[bxV b] w fun e w'=>e= .returned (corV b)∧Below w.heap.size w w':=by
 obtain ⟨x0,y0,x1,y1⟩:=b
 go_enter Tryz.func274,Tryz.ntmps274
 go_wp2_with fail
 have key:=second_new w (bxO ⟨x0,y0,x1,y1⟩) (.cells #[.int .i64 x0, .int .i64 y0, .int .i64 x1, .int .i64 y0, .int .i64 x0, .int .i64 y1, .int .i64 x1, .int .i64 y1] 394)
 exact bodyPost_ret (results_cell_row rfl _ _ (w.heap.size+1) _ _ _ _ rfl key Tryz.underlying394 rfl (by kernel_rfl)) rfl ⟨rfl,bel2 _ _ _⟩
end Go.Proofs.YtfldplmgkeiimaaGreatDoor.VW
