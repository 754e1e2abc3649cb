/- Lemmas. -/
import Derived.Test.YtfldplmgkeiimaaGreatDoorQ3
import Derived.Laws.ResultCell
import Derived.Lib.MinMax
set_option linter.all false
set_option maxRecDepth 100000
set_option maxHeartbeats 6400000
namespace Go.Proofs.YtfldplmgkeiimaaGreatDoor
abbrev Hk:=@Nat.add_zero
abbrev Hl:=@List.ext_getElem?
abbrev Kg:=@List.getElem?_eq_none
abbrev SH:=@Array.ext_getElem?
abbrev Kh:=@Array.getElem?_eq_none
abbrev gb:=@congrArg
abbrev Hm:=@List.take_take
abbrev EB:=@Nat.min_eq_left
abbrev Ki:=@List.drop_take
abbrev SI:=@Sem.run_pure
abbrev EC:=@Result.andThen_ok
abbrev zu:=@Bool.or_eq_true
abbrev rq:=@results_cell_row
abbrev Hn:=@List.all_nil
abbrev Cz:=@Bool.and_true
abbrev xO:=@Bool.eq_iff_iff
abbrev SJ:=@Bool.not_eq_true'
abbrev Oe:=@Bool.and_eq_false_iff
abbrev CA:=@decide_eq_false_iff_not
abbrev jT:=@run_underlying
abbrev pq:=@Int.add_zero
namespace el
open wq (ig lB si)
open cf (eI C ks)
abbrev ec:=Bool×ey
structure wC where
 dP:ey
 r:Int
 round:Bool
 block:Bool
 fk:List ec
structure qH where
 step:Bool
 code:Int
 n:Int
 m:Int
 fF:bp
 fk:List ec
def Kj:qH:=⟨false,0,0,0,(0,0),[]⟩
structure cG where
 unit:Int
 k2:Int
 fd:Int
 fO:Bool
 formed:Bool
 iX:Int→Option wC
 pr:Int
 gd:List ma
 at_:bp
 mode:Int
 ED:Bool
 fe:Bool
 c9:hE
 region:Bool
 bO:List (List bp)
 top:qH
 levels:List qH
 made:Int
 budget:Int
 ended:Bool
def tz(b:Int):cG:=⟨0,0,0,false,false,fun _=>none,0,[],(0,0),1,false,true,tn,false,[],Kj,[],0,min (max b 0) 100000,false⟩
def iM(p:cG)(fe:Bool)(s:ey):Except Nat cG:=
 if okV s=false then .error 5 else if p.budget≤p.made then .error 6 else .ok {p with made:=p.made+1,top:={p.top with fk:=p.top.fk++[(fe,s)]}}
def k3(p:cG)(fe:Bool)(s:ey)(t:hE):Except Nat cG:=match Cm t s with
 |none=>.error 5
 |some m=>iM p fe m
def mb(f:Bool→Bool)(t:hE):List ec→cG→Except Nat cG
 |[],p=>.ok p
 |o::l,p=>match k3 p (f o.1) o.2 t with
  |.error e=>.error e
  |.ok q=>mb f t l q
def EE(p:cG)(code:Int):Bool:=(p.iX code).isSome ||(p.top::p.levels).dropLast.any fun v=>!v.step&&decide (v.code=code)
def oL(l:List (List bp)):Bool:=match l.getLast? with
 |none=>true
 |some c=>decide (4≤c.length)&&decide (c.head?=c.getLast?)
def zv(p:cG):Except Nat cG:=
 if oL p.bO=false then .error 4
 else if 1000<((p.bO.map List.dropLast).map List.length).sum then .error 6
 else if p.bO=[] then .ok {p with bO:=[]}
 else iM {p with bO:=[]} p.fe (gT (jo (p.bO.map List.dropLast)))
def xP(p:cG)(xQ:bp):Except Nat cG:=
 if p.region=false then .ok p else if oL p.bO=false then .error 4 else .ok {p with bO:=p.bO++[[xQ]]}
def wD(p:cG)(xQ:bp):Except Nat cG:=match p.iX p.pr with
 |none=>.error 4
 |some a=>if p.region=true then .error 4 else if a.block=false then k3 p p.fe a.dP {p.c9 with fF:=xQ} else mb (fun d=>decide (d=p.fe)) {p.c9 with fF:=xQ} a.fk p
def mc(l:List (List bp))(q:bp):List (List bp):=l.dropLast++[l.getLastD [] ++[q]]
def wE(p:cG)(c:C)(xQ mid:bp):Except Nat cG:=
 if p.mode≠1∧p.region=true then .error 8
 else if p.mode≠1∧p.ED=false then .error 4
 else if p.mode=1∧(c.i≠[]∨c.j≠[]) then .error 4
 else if p.region=true then (if p.bO=[] then .error 4 else .ok {p with bO:=mc p.bO xQ})
 else match p.iX p.pr with
  |none=>.error 4
  |some a=>if a.round=false then .error 4
   else if p.mode=1 then (if a.r=0 then .ok p else iM p p.fe (gT (uL p.at_ xQ a.r)))
   else
    let x:=if p.mode=2 then xQ else p.at_
    let y:=if p.mode=2 then p.at_ else xQ
    let z:bp:=(p.at_.1+mid.1,p.at_.2+mid.2)
    if xA z x y=false then .error 9 else if a.r=0 then .ok p else iM p p.fe (gT {hb with k:=5,a:=x,b:=y,c:=z,r:=a.r})
def iY(p:cG)(s:bk)(was:Int):Option Int:=if s=[] then some was else lB s p.unit p.k2 p.fd p.fO
def rr(p:cG)(c:C):Except Nat cG:=
 if p.unit=0∨p.formed=false then .error 4 else match iY p c.x p.at_.1 with
 |none=>.error 5
 |some x=>match iY p c.y p.at_.2 with
  |none=>.error 5
  |some y=>match iY p c.i 0 with
   |none=>.error 5
   |some i=>match iY p c.j 0 with
    |none=>.error 5
    |some j=>match (if c.n=1 then wE p c (x,y) (i,j) else if c.n=2 then xP p (x,y) else if c.n=3 then wD p (x,y) else .error 4) with
     |.error e=>.error e
     |.ok q=>.ok {q with at_:=(x,y)}
def aiT(p:cG)(c:C):Except Nat cG:=
 if EE p c.n=true then .error 4 else if 16≤p.levels.length then .error 6 else .ok {p with top:={Kj with code:=c.n},levels:=p.top::p.levels}
def jP(c:C)(i:Nat):Int:=c.cj.getD i 0
def aiU(p:cG)(c:C):Except Nat cG:=
 if (p.top::p.levels).any (fun v=>v.step)=true then .error 4
 else if 16≤p.levels.length then .error 6
 else if c.n<1∨c.m<1∨jP c 0<0∨jP c 1<0 then .error 4
 else if 10000<c.n∨10000<c.m∨10000<c.n *c.m then .error 6
 else if p.unit=0 then .error 4
 else match ig (jP c 0) p.unit with
  |none=>.error 5
  |some x=>match ig (jP c 1) p.unit with
   |none=>.error 5
   |some y=>.ok {p with top:={Kj with step:=true,n:=c.n,m:=c.m,fF:=(x,y)},levels:=p.top::p.levels}
def aiV(p:cG):Except Nat cG:=match p.levels with
 |[]=>.error 4
 |v::l=>if p.top.step=true then .error 4 else .ok {p with top:=v,levels:=l,iX:=fun j=>if j=p.top.code then some ⟨Yo,0,false,true,p.top.fk⟩ else p.iX j}
def YR(v:qH)(x:Int):Nat→Int→cG→Except Nat cG
 |0,_,p=>.ok p
 |k+1,y,p=>match mb id {tn with fF:=(x *v.fF.1,y *v.fF.2)} v.fk p with
  |.error e=>.error e
  |.ok q=>YR v x k (y+1) q
def YS(v:qH):Nat→Int→cG→Except Nat cG
 |0,_,p=>.ok p
 |k+1,x,p=>match YR v x v.m.toNat 0 p with
  |.error e=>.error e
  |.ok q=>YS v k (x+1) q
def aiW(p:cG):Except Nat cG:=match p.levels with
 |[]=>.error 4
 |v::l=>if p.top.step=false then .error 4 else YS p.top p.top.n.toNat 0 {p with top:=v,levels:=l}
def po(p:cG)(c:C):Except Nat cG:=
 if p.unit=0∨EE p c.n=true then .error 4 else match oK c.t c.cj p.unit p.gd with
  |.error e=>.error e
  |.ok (s,r)=>.ok {p with iX:=fun j=>if j=c.n then some ⟨s,r,decide (c.t=[67])&&(decide (c.cj.length=1)|| decide (c.cj.getD 1 0=0)),false,[]⟩ else p.iX j}
def EF(p:cG)(c:C):Except Nat cG:=
 if c.k=8 then (if p.formed=true∨si 1 c.n c.m=false then .error 4 else .ok {p with k2:=c.n,fd:=c.m,fO:=c.on,formed:=true})
 else if c.k=9 then (if p.unit≠0 then .error 4 else .ok {p with unit:=c.n})
 else if c.k=19 then (if p.gd.any (fun m=>m.name==c.t)=true then .error 4 else .ok {p with gd:=p.gd++[⟨c.t,c.blocks⟩]})
 else po p c
def AT(p:cG)(c:C):Except Nat cG:=
 if c.k=2 then .ok {p with mode:=c.n}
 else if c.k=4 then .ok {p with ED:=true}
 else if c.k=6 then (if (p.iX c.n).isSome=false then .error 4 else .ok {p with pr:=c.n})
 else if c.k=15 then .ok {p with fe:=c.on}
 else if c.k=16 then .ok {p with c9:={p.c9 with bz:=decide (c.n=1)|| decide (c.n=3),bK:=decide (c.n=2)|| decide (c.n=3)}}
 else if (jP c 0).tmod 90000000≠0 then .error 7 else .ok {p with c9:={p.c9 with q:=((jP c 0).tdiv 90000000).tmod 4}}
def lP(p:cG)(c:C):Except Nat cG:=
 if p.ended=true then .error 4
 else if p.region=true∧(c.k=6∨(11≤c.k∧c.k≤17)) then .error 4
 else if c.k=1∨c.k=18 then .ok p
 else if c.k=8∨c.k=9∨c.k=10∨c.k=19 then EF p c
 else if c.k=2∨c.k=4∨c.k=6∨c.k=15∨c.k=16∨c.k=17 then AT p c
 else if c.k=3 then (if p.region=c.on then .error 4 else if c.on=true then .ok {p with region:=true} else zv {p with region:=false})
 else if c.k=7 then rr p c
 else if c.k=11 then aiT p c
 else if c.k=13 then aiU p c
 else if c.k=12 then aiV p
 else if c.k=14 then aiW p
 else if c.k=5 then (if p.region=true∨p.levels≠[] then .error 4 else .ok {p with ended:=true})
 else .error 4
def mA:List C→Nat→cG→Except (Nat×Nat) cG
 |[],_,p=>.ok p
 |c::l,i,p=>match lP p c with
  |.error e=>.error (i,e)
  |.ok q=>mA l (i+1) q
def xR(l:List C)(b:Int):List ec×Nat×Nat:=match mA l 0 (tz b) with
 |.error (i,e)=>([],i,e)
 |.ok p=>if p.ended=false then ([],l.length,11) else (p.top.fk,0,0)
def mV(s:bk)(b:Int):List ec×Nat×Nat:=match ks s with
 |(l,a,e)=>if e≠0 then ([],a,e) else match xR (l.map Prod.snd) b with
  |(o,i,f)=>if f=0 then (o,0,0) else if i<l.length then ([],((l.map Prod.fst)[i]?).getD 0,f) else ([],s.length,f)
def k4(l:List ec)(x:bR):Int:=l.foldl (fun k o=>qB k (p2 x o.2) o.1) 0
structure iZ where
 x:Int
 y:Int
 h3:Int
 w:Int
 h:Int
 depth:Int
deriving DecidableEq
def qa(v:iZ):Bool:=
 if v.depth<0∨6<v.depth then false
 else if v.h3<1∨536870912<v.h3∨v.h3%(2^v.depth.toNat)≠0 then false
 else if v.w<1∨256<v.w∨v.h<1∨256<v.h then false
 else if v.x< -536870912∨536870912<v.x∨v.y< -536870912∨536870912<v.y then false
 else okB ⟨v.x,v.y,v.x+v.w *v.h3,v.y+v.h *v.h3⟩
def mW(v:iZ)(x y:Nat):bR:=⟨v.x+x *v.h3,v.y+(v.h-1-y) *v.h3,v.x+x *v.h3+v.h3,v.y+(v.h-1-y) *v.h3+v.h3⟩
def AU(v:iZ):Int:=4^v.depth.toNat
abbrev eV:=Int×Int
structure eJ where
 o:ec
 b:bR
 any:Bool
def CB:bh→Bool
 |.nil=>false
 |.cons _ b s r=>(decide (b.k=4)|| CB s)|| CB r
def AV(s:ey):Bool:=decide (s.b.k=4)|| CB s.p
def j6(l:List ec):List eJ:=l.filterMap fun o=>(v8 o.2).map fun b=>⟨o,b,AV o.2⟩
def fC(g:List eJ)(b:bR):List eJ:=g.filter fun e=>e.any || !uv e.b b
def oe:Nat→List eJ→bR→Int→Option eV×Int
 |0,g,b,m=>if m≤0 then (none,m-1) else
  let k:=k4 (g.map eJ.o) b
  (some (if k=0 then (0,0) else if k=2 then (1,1) else (0,1)),m-1)
 |d+1,g,b,m=>if m≤0 then (none,m-1) else
  let k:=k4 (g.map eJ.o) b
  if k=0 then (some (0,0),m-1)
  else if k=2 then (some (4 ^(d+1),4 ^(d+1)),m-1)
  else (splitB b).foldl (fun (s:Option eV×Int) q=>match s with
   |(none,m)=>(none,m)
   |(some c,m)=>match oe d (fC g q) q m with
    |(none,m)=>(none,m)
    |(some e,m)=>(some (c.1+e.1,c.2+e.2),m)) (some (0,0),m-1)
def oM(v:iZ)(g:List eJ)(y:Nat):Nat→Nat→List eV→Int→Option (List eV)× Int
 |0,_,acc,m=>(some acc,m)
 |k+1,x,acc,m=>match oe v.depth.toNat (fC g (mW v x y)) (mW v x y) m with
  |(none,m)=>(none,m)
  |(some c,m)=>oM v g y k (x+1) (acc++[c]) m
def tA(v:iZ)(y:Nat):bR:=⟨(mW v 0 y).ao,(mW v 0 y).ak,(mW v (v.w.toNat-1) y).ar,(mW v (v.w.toNat-1) y).aq⟩
def ru(v:iZ)(g:List eJ):Nat→Nat→List eV→Int→Option (List eV)× Int
 |0,_,acc,m=>(some acc,m)
 |k+1,y,acc,m=>match oM v (fC g (tA v y)) y v.w.toNat 0 acc m with
  |(none,m)=>(none,m)
  |(some a,m)=>ru v g k (y+1) a m
def uM(l:List ec)(v:iZ)(m:Int):Option (List eV)× Int:=ru v (j6 l) v.h.toNat 0 [] m
def nJ(c:Int):Int×Int:=(65536 *max 0 (min c 255),65536 *max 0 (min c 255))
def rv(t:Int×Int):Bool:=decide (0≤t.1)&&(decide (t.1≤t.2)&&decide (t.2≤16711680))
def Ho(v:eV)(cells:Int):Bool:=decide (1≤cells)&&(decide (cells≤4096)&&(decide (0≤v.1)&&(decide (v.1≤v.2)&&decide (v.2≤cells))))
def uN(t:Int)(c al k cells:Int):Int:=t *(255 *cells-al *k)+65536 *c *(al *k)
def CC(t:Int×Int)(c al:Int)(v:eV)(cells:Int):Int:=min (min (min (uN t.1 c al v.1 cells) (uN t.2 c al v.1 cells)) (uN t.1 c al v.2 cells)) (uN t.2 c al v.2 cells)
def CD(t:Int×Int)(c al:Int)(v:eV)(cells:Int):Int:=max (max (max (uN t.1 c al v.1 cells) (uN t.2 c al v.1 cells)) (uN t.1 c al v.2 cells)) (uN t.2 c al v.2 cells)
def sk(t:Int×Int):Int:=if rv t=true then (t.1+t.2+65536)/ 131072 else 0
end el
namespace dE
open Go.RowKit el
variable{w:bTo}{k i:Nat}
theorem jg{j:Nat}{u:ada}(h:k≠j):(w.setCell (ag j i) u).heap[k]?=w.heap[k]?:=jZ _ _ _ _ h
theorem SK(w:bTo)(a:Addr)(u:ada):(w.setCell a u).heap.size=w.heap.size:=by simp[World.setCell]
variable{cs:agv}
theorem cell_of{t:aui}{v:ada}(h:bo w k cs t)(aS:cs[i]?=some v):aw w k i v:=by simp[World.cell?,h,aS]
def jh(w:bTo)(b:Nat):Nat→bTv→World
 |_,[]=>w
 |m,v::vs=>jh (w.setCell (ag b m) v) b (m+1) vs
def sl(cs:agv):Nat→bTv→Array Value
 |_,[]=>cs
 |m,v::vs=>sl (cs.setIfInBounds m v) (m+1) vs
theorem Hp{b:Nat}{t:aui}:∀(vs:bTv) {w:bTo} {cs:agv} {m:Nat},bo w b cs t→(jh w b m vs).heap[b]?=some (.cells (sl cs m vs) t)
 |[],_,_,_,h=>h
 |v::vs,_,_,_,h=>Hp vs (c4 v h)
theorem xS{b k:Nat}(ab:k≠b):∀(vs:bTv) {w:bTo} {m:Nat},(jh w b m vs).heap[k]?=w.heap[k]?
 |[],_,_=>rfl
 |v::vs,_,_=>(xS ab vs).trans (jg ab)
theorem xT{S:Jp}{b:Nat}(af:¬S b):∀(vs:bTv) {w:bTo} {m:Nat},aL S w (jh w b m vs)
 |[],_,_=>.refl _ _
 |v::vs,w,m=>(aL.set (a:=⟨b,m,none⟩) af v).trans (xT af vs)
theorem pt{B:Nat}{b:Nat}(af:B≤b):∀(vs:bTv) {w0 w:bTo} {m:Nat},Below B w0 w→Below B w0 (jh w b m vs)
 |[],_,_,_,h=>h
 |v::vs,_,_,m,h=>pt af vs (h.setCell (p:=⟨b,m,none⟩) af v)
theorem YT(b:Nat):∀(vs:bTv) (w:bTo) (m:Nat),(jh w b m vs).heap.size=w.heap.size
 |[],_,_=>rfl
 |v::vs,w,m=>(YT b vs _ _).trans (SK _ _ _)
theorem Kk:∀(vs:bTv) (cs:agv) (m:Nat),(sl cs m vs).size=cs.size
 |[],_,_=>rfl
 |v::vs,cs,m=>(Kk vs _ _).trans (by simp)
theorem SL:∀(vs:bTv) (cs:agv) (m i:Nat),i<m→(sl cs m vs)[i]?=cs[i]?
 |[],_,_,_,_=>rfl
 |v::vs,cs,m,i,h=>(SL vs _ _ _ (by omega)).trans (Ew (by omega))
theorem SM:∀(vs:bTv) (cs:agv) (m i:Nat),i<vs.length→m+vs.length≤cs.size→(sl cs m vs)[m+i]?=vs[i]?
 |[],_,_,_,h,_=>absurd h (l7 _)
 |v::vs,cs,m,0,h,hs=>(SL vs _ _ _ (by omega)).trans (by rw[Hk,N2 (by simp only[fK] at hs;omega)];rfl)
 |v::vs,cs,m,i+1,h,hs=>by have:=SM vs (cs.setIfInBounds m v) (m+1) i (by simpa using h) (by simp only[fK,AN] at hs⊢;omega);rw[show m+(i+1)=m+1+i by omega];exact this
variable{vs:bTv}
theorem YU{m n:Nat}(h:n≤m):(sl cs m vs).toList.take n=cs.toList.take n:=by
 apply Hl;intro i;rw[ti,ti];split
 ·have aa:=SL vs cs m i (by omega);simpa using aa
 ·rfl
theorem YV{m:Nat}(h:m+vs.length≤cs.size):((sl cs m vs).toList.drop m).take vs.length=vs:=by
 apply Hl;intro i;rw[ti];split
 ·rename_i hi;have aa:=SM vs cs m i hi h;rw[AF];simpa using aa
 ·rename_i hi;rw[Kg (by omega)]
theorem aiX(h:vs.length=cs.size):sl cs 0 vs=vs.toArray:=by
 apply SH;intro i;by_cases hi:i<vs.length
 ·have:=SM vs cs 0 i hi (by omega);rw[lk] at this;rw[this];simp
 ·rw[Kh (by rw[Kk];omega),Kh (by simp;omega)]
theorem me{b:Nat}{t:aui}(vs:bTv)(h:bo w b cs t)(aj:vs.length=cs.size):(jh w b 0 vs).heap[b]?=some (.cells vs.toArray t):=by rw[Hp vs h,aiX aj]
theorem dS.congr{S:Jp}{w:bTo}:∀{s:bh} {xs eS:bTv},dS S w s xs→xs.take (s.len *11)=eS.take (s.len *11)→dS S w s eS
 |.nil,_,_,_,_=>trivial
 |.cons a b s r,xs,eS,h,e=>by obtain⟨⟨pl,cl,pp,cp,aa,ah⟩,c0⟩:=h;have aN:xs.take 11=eS.take 11:=(by have:=gb (List.take 11) e;rw[Hm,Hm,EB (by simp only[bh.len];omega)] at this;exact this);have aR:(xs.drop 11).take (r.len *11)=(eS.drop 11).take (r.len *11):=(by have:=gb (List.drop 11) e;rw[Ki,Ki,show (bh.cons a b s r).len *11-11=r.len *11 by simp only[bh.len];omega] at this;exact this);exact⟨⟨pl,cl,pp,cp,by rw[←aN];exact aa,ah⟩,dS.congr c0 aR⟩
theorem dS.join{S:Jp}{w:bTo}:∀{s t:bh} {xs:bTv},dS S w s xs→dS S w t (xs.drop (s.len *11))→dS S w (s.append t) xs
 |.nil,_,xs,_,h=>by simpa[bh.append,bh.len] using h
 |.cons a b s r,t,xs,h,g=>by
  refine⟨h.1,dS.join h.2 ?_⟩;rw[pd]
  rwa [show 11+r.len *11=(bh.cons a b s r).len *11 by simp only[bh.len];omega]
theorem bM{v Z:bTo}(af:av v v Z){x:ada}(h:aw v k i x):aw Z k i x:=by
 have ab:k<v.heap.size:=by
  by_cases ab:k<v.heap.size
  ·exact ab
  ·have:v.heap[k]?=none:=Kh (by omega);simp[World.cell?,this] at h
 have:=af.block k ab;simpa[World.cell?,this] using h
theorem nK{P:Program}{fn:Func}{p u:Tmp}{ty:aui}(h:fn.results= #[.cell p ty,.tmp u])(tmps:agv)(w:bTo)(g:Nat)(t:aui)(cs:agv)(fr:Nat×Nat)(d:TypeDesc)
  (hp:tmps.getD p undef=.pointer (some (ag g 0))) (aX:w.heap[g]?=some (.cells cs t fr))
  (hu:P.underlying ty=some d) (hd:(match d with|.struct _|.array _ _=>true|_=>false)=true) (hi:(P.info? ty).map (·.size)=some cs.size):
  (results fn tmps).run P w=.ok (.tuple #[.agg cs,tmps.getD u undef]) w:=by
 rw[results_cell_tmp h,hp];simp only[asAddr,SI,EC,run_loadVar_row w g t ty cs fr d aX hu hd hi]
theorem CE{a b c:Bool}(h:(a=true↔b=true))(e:b=c):a=c:=e ▸ Bool.eq_iff_iff.2 h
theorem jq(w:bTo)(o:Obj):av w w (w.alloc o):=ba w o
theorem k5(w:bTo)(o p:Obj):av w w ((w.alloc o).alloc p):=(ba w o).alloc (by simp) _
theorem YW(w:bTo)(o p q:Obj):av w w (((w.alloc o).alloc p).alloc q):=(k5 w o p).alloc (by simp;omega) _
theorem Of(v:Int)(f:Bool)(hf:J (tp v=f))(w:bTo):Calls Tryz.prog 121 #[I v] w fun e w'=>e=bb (ai f)∧w'=w:=by
 go_enter Tryz.func121,Tryz.ntmps121;go_wp2_with fail
 all_goals
  go_ret;refine⟨ej (CE ⟨fun h=>?_,fun h=>?_⟩ hf.out),rfl⟩<;>simp only[tp,gy,gH,oE] at h⊢<;>omega
theorem YX(b:bR)(f:Bool)(hf:J (okB b=f))(w:bTo):Calls Tryz.prog 83 #[gJ b] w fun e w'=>e=bb (ai f)∧av w w w':=by
 obtain⟨ao,ak,ar,aq⟩:=b;have h:=hf.out;clear hf;unfold okB at h;simp only at h;obtain⟨f0,aQ⟩:=az (tp ao);obtain⟨f1,aa⟩:=az (tp ak);obtain⟨f2,ah⟩:=az (tp ar);obtain⟨f3,ax⟩:=az (tp aq);rw[aQ,aa,ah,ax] at h;have og:=U aQ;have H1:=U aa;have b9:=U ah;have cS:=U ax;clear aQ aa ah ax;by_cases aJ:ao≤ar
 case neg=>
  have aE:J (false=f):=(by show _=_;rw[←h,eD aJ];rfl);clear h;go_enter Tryz.func83,Tryz.ntmps83;go_wp2_with fail;go_ret;exact⟨ej aE.out,jq _ _⟩
 by_cases aI:ak≤aq
 case neg=>
  have aE:J (false=f):=(by show _=_;rw[←h,eD aI];simp);clear h;go_enter Tryz.func83,Tryz.ntmps83;go_wp2_with fail;go_ret;exact⟨ej aE.out,jq _ _⟩
 have aE:J ((f0&&(f1&&(f2&&f3)))=f):=by show _=_;rw[←h,eH aJ,eH aI];rfl
 clear h;go_enter Tryz.func83,Tryz.ntmps83;go_wp2_with fail;go_fit (Of _ _ og _);rintro e bE ⟨rfl,rfl⟩;cases f0 with
 |false=>
  go_wp2_with fail;go_ret;exact⟨ej aE.out,jq _ _⟩
 |true=>
  go_wp2_with fail;go_fit (Of _ _ H1 _);rintro e bE ⟨rfl,rfl⟩;cases f1 with
  |false=>
   go_wp2_with fail;go_ret;exact⟨ej aE.out,jq _ _⟩
  |true=>
   go_wp2_with fail;go_fit (Of _ _ b9 _);rintro e bE ⟨rfl,rfl⟩;cases f2 with
   |false=>
    go_wp2_with fail;go_ret;exact⟨ej aE.out,jq _ _⟩
   |true=>
    go_wp2_with fail;go_fit (Of _ _ cS _);rintro e bE ⟨rfl,rfl⟩;go_wp2_with fail;go_ret;exact⟨ej aE.out,jq _ _⟩
theorem Kl(b:bR)(p:bp)(f:Bool)(hf:J ((decide (b.ao≤p.1)&&(decide (p.1≤b.ar)&&(decide (b.ak≤p.2)&&decide (p.2≤b.aq))))=f))(w:bTo):Calls Tryz.prog 269 #[gJ b,fA p] w fun e w'=>e=bb (ai f)∧av w w w':=by
 obtain⟨ao,ak,ar,aq⟩:=b;obtain⟨bW,bU⟩:=p;go_enter Tryz.func269,Tryz.ntmps269;go_wp2_with fail
 all_goals
  go_ret;refine⟨ej (CE ⟨fun h=>?_,fun h=>?_⟩ hf.out),k5 _ _ _⟩<;>simp only[gy,gH,oE] at h⊢<;>omega
theorem SN(b:bR)(f:Bool)(hf:J (r' b=f))(w:bTo):Calls Tryz.prog 171 #[gJ b] w fun e w'=>e=bb (ai f)∧av w w w':=by
 obtain⟨ao,ak,ar,aq⟩:=b;go_enter Tryz.func171,Tryz.ntmps171;go_wp2_with fail
 all_goals
  go_ret;refine⟨ej (CE ⟨fun h=>?_,fun h=>?_⟩ hf.out),jq _ _⟩<;>simp only[r',zu,gH,oE] at h⊢<;>omega
theorem cP{t:aui}(h:bo w k cs t)(i:Nat):w.frozen? ⟨k,i,none⟩=false:=by simp[World.frozen?,h]
theorem fD{ao ak ar aq:Int}(h:w.heap[k]?=some (cH ⟨ao,ak,ar,aq⟩)):aw w k 0 (I ao)∧aw w k 1 (I ak)∧aw w k 2 (I ar)∧aw w k 3 (I aq):=by refine⟨?_,?_,?_,?_⟩<;>simp[World.cell?,h]
theorem aiY(a b:bR)(f:Bool)(hf:J (uv a b=f))(w:bTo):Calls Tryz.prog 124 #[gJ a,gJ b] w fun e w'=>e=bb (ai f)∧av w w w':=by
 obtain⟨cJ,aQ⟩:=az (r' a);obtain⟨aN,aa⟩:=az (r' b);have h:=hf.out;clear hf;unfold uv at h;rw[aQ,aa] at h;obtain⟨ao,ak,ar,aq⟩:=a;obtain⟨u0,v0,u1,v1⟩:=b;simp only at h;have og:=U aQ;have H1:=U aa;have ho:=U h;clear aQ aa h;go_enter Tryz.func124,Tryz.ntmps124;go_upto_region 1 with fail;obtain⟨W,a6⟩:=az ((w.alloc (cH ⟨ao,ak,ar,aq⟩)).alloc (cH ⟨u0,v0,u1,v1⟩));have aH:J (av w w W):=by show Below _ _ _;rw[←a6];exact k5 _ _ _
 have b8:J (W.heap[w.heap.size]?=some (cH ⟨ao,ak,ar,aq⟩)):=by show _=_;rw[←a6];exact aO (cw _ _) (ba _ _)
 have bq:J (W.heap[w.heap.size+1]?=some (cH ⟨u0,v0,u1,v1⟩)):=by show _=_;rw[←a6,←xE w (cH ⟨ao,ak,ar,aq⟩)];exact cw _ _
 rw[a6];clear a6;obtain⟨a0,a',a2,a3⟩:=fD b8.out;obtain⟨bX,b3,bc,ev⟩:=fD bq.out;go_wp2_with fail;go_fit (SN ⟨ao,ak,ar,aq⟩ _ og _);rintro e bQ ⟨rfl,e5⟩;have cm:J (av w w bQ):=aH.out.trans (e5.mono aH.out.size);have gf:=U (aO b8.out e5);have ji:=U (aO bq.out e5);clear a0 a' a2 a3 bX b3 bc ev e5;obtain⟨a0,a',a2,a3⟩:=fD gf.out;obtain⟨bX,b3,bc,ev⟩:=fD ji.out;cases cJ with
 |true=>
  have aE:J (true=f):=(by show _=_;rw[←ho.out];rfl);go_wp2_with fail;go_ret;exact⟨ej aE.out,cm.out⟩
 |false=>
  go_wp2_with fail;go_fit (SN ⟨u0,v0,u1,v1⟩ _ H1 _);rintro e ct ⟨rfl,eb⟩;have c1:J (av w w ct):=cm.out.trans (eb.mono cm.out.size);have qb:=U (aO gf.out eb);have gK:=U (aO ji.out eb);clear a0 a' a2 a3 bX b3 bc ev eb;obtain⟨a0,a',a2,a3⟩:=fD qb.out;obtain⟨bX,b3,bc,ev⟩:=fD gK.out;cases aN with
  |true=>
   have aE:J (true=f):=(by show _=_;rw[←ho.out];rfl);go_wp2_with fail;go_ret;exact⟨ej aE.out,c1.out⟩
  |false=>
   go_wp2_with fail
   all_goals
    go_ret;refine⟨ej (CE ⟨fun h=>?_,fun h=>?_⟩ ho.out),c1.out⟩<;>simp only[zu,gH,oE,false_or] at h⊢<;>(try simp only[false_or] at h)<;>first|omega|(trace_state;fail)
def dw(p:bp):Prop:=(-536870912≤p.1∧p.1≤536870912)∧-536870912≤p.2∧p.2≤536870912
theorem AW{a b:Int}(ha:-1073741824≤a∧a≤1073741824)(af:-1073741824≤b∧b≤1073741824):-1152921504606846976≤a *b∧a *b≤1152921504606846976:=by
 have aa:0≤(1073741824-a) *(1073741824+b):=hL (by omega) (by omega);have ah:0≤(1073741824+a) *(1073741824-b):=hL (by omega) (by omega);have ax:0≤(1073741824-a) *(1073741824-b):=hL (by omega) (by omega);have bg:0≤(1073741824+a) *(1073741824+b):=hL (by omega) (by omega);have aN:(1073741824-a) *(1073741824+b)=1152921504606846976+1073741824 *b-1073741824 *a-a *b:=by grind
 have aR:(1073741824+a) *(1073741824-b)=1152921504606846976-1073741824 *b+1073741824 *a-a *b:=by grind
 have cA:(1073741824-a) *(1073741824-b)=1152921504606846976-1073741824 *b-1073741824 *a+a *b:=by grind
 have hN:(1073741824+a) *(1073741824+b)=1152921504606846976+1073741824 *b+1073741824 *a+a *b:=by grind
 omega
theorem xU(o a b:bp)(bl:dw o)(ha:dw a)(af:dw b)(f:Int)(hf:J (dN o a b=f))(w:bTo):Calls Tryz.prog 311 #[fA o,fA a,fA b] w fun e w'=>e=bb (I f)∧av w w w':=by obtain⟨ox,tB⟩:=o;obtain⟨aA,aB⟩:=a;obtain⟨aU,EG⟩:=b;unfold dw at bl ha af;simp only at bl ha af;have m1:=AW (a:=aA-ox) (b:=EG-tB) (by omega) (by omega);have m2:=AW (a:=aB-tB) (b:=aU-ox) (by omega) (by omega);have bE:bT (aA-ox)=aA-ox:=b4 _ (by omega);have cr:bT (EG-tB)=EG-tB:=b4 _ (by omega);have dJ:bT (aB-tB)=aB-tB:=b4 _ (by omega);have cb:bT (aU-ox)=aU-ox:=b4 _ (by omega);have bt:bT ((aA-ox) *(EG-tB))=(aA-ox) *(EG-tB):=b4 _ (by omega);have cX:bT ((aB-tB) *(aU-ox))=(aB-tB) *(aU-ox):=b4 _ (by omega);have j7:bT ((aA-ox) *(EG-tB) -(aB-tB) *(aU-ox))=(aA-ox) *(EG-tB) -(aB-tB) *(aU-ox):=b4 _ (by omega);clear m1 m2 bl ha af;go_enter Tryz.func311,Tryz.ntmps311;go_wp2_with fail;go_ret;exact⟨fU hf.out,YW _ _ _ _⟩
theorem ry(w:bTo)(o p:Obj):((w.alloc o).alloc p).heap[w.heap.size+1]?=some p:=by rw[←xE w o];exact cw _ _
abbrev AX(b:bR):Value:=.agg #[I b.ao,I b.ak,I b.ar,I b.ak,I b.ao,I b.aq,I b.ar,I b.aq]
theorem Og(b:bR)(w:bTo):Calls Tryz.prog 274 #[gJ b] w fun e w'=>e=bb (AX b)∧av w w w':=by obtain⟨ao,ak,ar,aq⟩:=b;go_enter Tryz.func274,Tryz.ntmps274;go_wp2_with fail;have key:=ry w (cH ⟨ao,ak,ar,aq⟩) (aD (#[I ao,I ak,I ar,I ak,I ao,I aq,I ar,I aq]) 394);exact dH (rq rfl _ _ (w.heap.size+1) _ _ _ _ rfl key Tryz.underlying394 rfl (by kernel_rfl)) rfl ⟨rfl,k5 _ _ _⟩
def oN(d:Nat→Int):Nat→Int
 |0=>0
 |n+1=>oN d n+if 0<d n then 1 else 0
def oO(d:Nat→Int):Nat→Int
 |0=>0
 |n+1=>oO d n+if d n<0 then 1 else 0
def dV(ao ak ar aq:Int):Nat→bp
 |0=>(ao,ak)
 |1=>(ar,ak)
 |2=>(ao,aq)
 |_=>(ar,aq)
theorem aiZ(ao ak ar aq:Int)(p q:bp)(hm:¬(max p.1 q.1<ao∨ar<min p.1 q.1∨max p.2 q.2<ak∨aq<min p.2 q.2)):
  p1 ⟨ao,ak,ar,aq⟩ p q=(decide (oN (fun k=>dN p q (dV ao ak ar aq k)) 4<4)&&decide (oO (fun k=>dN p q (dV ao ak ar aq k)) 4<4)):=by
 unfold p1;rw[aK hm];simp only[oN,oO,kX,dV,AG,Hn,Cz]
 congr 1<;>rw[xO]<;>simp only[SJ,gH,Oe,CA]<;>(repeat' split)<;>omega
theorem Oh{b:bR}{p q:bp}{f:Bool}(h:p1 b p q=f)(hm:max p.1 q.1<b.ao∨b.ar<min p.1 q.1∨max p.2 q.2<b.ak∨b.aq<min p.2 q.2):false=f:=by rw[←h];unfold p1;rw[aT hm]
theorem EH(ao ak ar aq:Int)(j:Nat)(cB:j<4)(w:bTo):(Instr.index 394 (AX ⟨ao,ak,ar,aq⟩) (I j)).run Tryz.prog w=.ok (fA (dV ao ak ar aq j)) w:=by rcases (show j=0∨j=1∨j=2∨j=3 by omega) with rfl|rfl|rfl|rfl<;>simp[Instr.index,jT Tryz.underlying394,asIntOf,go_sem,dV,part]
theorem YY(b:bR)(p q:bp)(aQ:dw (b.ao,b.ak))(aa:dw (b.ar,b.aq))(hp:dw p)(aC:dw q)(he:r' b=false)(f:Bool)(hf:J (p1 b p q=f))(w:bTo):
  Calls Tryz.prog 277 #[gJ b,fA p,fA q] w fun e w'=>e=bb (ai f)∧av w w w':=by
 have bq:J (∀k,dw (dV b.ao b.ak b.ar b.aq k)):=by
  rintro (_|_|_|k)
  ·exact aQ
  ·exact⟨aa.1,aQ.2⟩
  ·exact⟨aQ.1,aa.2⟩
  ·exact aa
 have bm:=U he;have bL:=U hp;have a7:=U aC;clear aQ aa he hp aC;obtain⟨ao,ak,ar,aq⟩:=b;obtain⟨bW,bU⟩:=p;obtain⟨cY,cZ⟩:=q;go_enter Tryz.func277,Tryz.ntmps277;go_upto_region 1 with fail;obtain⟨W,a6⟩:=az (((w.alloc (cH ⟨ao,ak,ar,aq⟩)).alloc (dB (bW,bU))).alloc (dB (cY,cZ)));obtain⟨t1,t2,t3,t4,t5⟩:=rb a6;have b8:=U t1;have aH:=U t2;have cI:=U t3;have dC:=U t4;rw[a6];clear a6 t1 t2 t3 t4 t5;obtain⟨a0,a',a2,a3⟩:=fD b8.out;go_wp2_with fail;go_fit (SN ⟨ao,ak,ar,aq⟩ _ bm _);rintro e V ⟨rfl,aS⟩;have gf:=U (aO b8.out aS);have cm:=U (aO aH.out aS);have wF:=U (aO cI.out aS);have cd:J (av w w V):=dC.out.trans (aS.mono dC.out.size);clear a0 a' a2 a3 aS b8 aH cI dC;obtain⟨a0,a',a2,a3⟩:=fD gf.out;obtain⟨eK,er⟩:=eP cm.out;obtain⟨e8,bN⟩:=eP wF.out;simp only at eK er e8 bN;by_cases aI:max bW cY<ao
 case pos=>
  have aE:J (false=f):=Oh hf.out (.inl aI);go_wp2_with fail;go_ret;exact⟨ej aE.out,cd.out⟩
 by_cases c2:ar<min bW cY
 case pos=>
  have aE:J (false=f):=Oh hf.out (.inr (.inl c2));go_wp2_with fail;go_ret;exact⟨ej aE.out,cd.out⟩
 by_cases c3:max bU cZ<ak
 case pos=>
  have aE:J (false=f):=Oh hf.out (.inr (.inr (.inl c3)));go_wp2_with fail;go_ret;exact⟨ej aE.out,cd.out⟩
 by_cases bF:aq<min bU cZ
 case pos=>
  have aE:J (false=f):=Oh hf.out (.inr (.inr (.inr bF)));go_wp2_with fail;go_ret;exact⟨ej aE.out,cd.out⟩
 have bB:=U ((aiZ ao ak ar aq (bW,bU) (cY,cZ) (by simp only;omega)).symm.trans hf.out);go_wp2_with fail;go_fit (Og ⟨ao,ak,ar,aq⟩ _);rintro e hG ⟨rfl,aS⟩;have jR:J (av V V hG):=aS;clear aS a0 a' a2 a3 eK er e8 bN;go_wp2_with fail
 go_loopw [7,8,56] (fun JU rt i wr=>∃(j:Nat) (L R:Int) (aG:bTo),aG=wr∧j≤4∧0≤L∧L≤(j:Int)∧0≤R∧R≤(j:Int)∧J (oN (fun k=>dN (bW,bU) (cY,cZ) (dV ao ak ar aq k)) j=L)∧J (oO (fun k=>dN (bW,bU) (cY,cZ) (dV ao ak ar aq k)) j=R)∧JU=I L∧rt=I R∧i=I j∧J (av V V aG)) (fun _ _ i _=>4 -(intOf i).toNat)
 case atStart=>exact⟨0,0,0,_,rfl,by decide,by decide,by decide,by decide,by decide,rfl,rfl,rfl,rfl,rfl,jR.out⟩
 case round=>
 obtain⟨j,L,R,aG,rfl,cB,SO,YZ,ai0,qc,uO,AY,rfl,rfl,rfl,cq⟩:=hrel;obtain⟨uP,CF⟩:∃uP:Int,(j:Int)=uP:=⟨_,rfl⟩;rw[CF];rcases (show j=0∨j=1∨j=2∨j=3∨j=4 by omega) with rfl|rfl|rfl|rfl|rfl
 ·
  obtain rfl:uP=0:=(by omega);have oh:∀w,(Instr.index 394 (AX ⟨ao,ak,ar,aq⟩) (I 0)).run Tryz.prog w=.ok (fA (dV ao ak ar aq 0)) w:=fun w=>EH ao ak ar aq 0 (by decide) w;obtain⟨v,aS⟩:=az (dN (bW,bU) (cY,cZ) (dV ao ak ar aq 0));have cV:=U aS;have dR:J (oN (fun k=>dN (bW,bU) (cY,cZ) (dV ao ak ar aq k)) (0+1)=L+(if 0<v then 1 else 0)):=(by show _=_;rw[←uO.out,←aS];rfl);have br:J (oO (fun k=>dN (bW,bU) (cY,cZ) (dV ao ak ar aq k)) (0+1)=R+(if v<0 then 1 else 0)):=(by show _=_;rw[←AY.out,←aS];rfl);clear aS;obtain⟨eK,er⟩:=eP (aO cm.out cq.out);obtain⟨e8,bN⟩:=eP (aO wF.out cq.out);simp only at eK er e8 bN;have dK:=lt_of_heap (aO cm.out cq.out);have e':=lt_of_heap (aO wF.out cq.out);have k6:bT (L+1)=L+1:=b4 _ (by omega);have qd:bT (R+1)=R+1:=b4 _ (by omega);go_wp2_with fail;go_fit (xU (bW,bU) (cY,cZ) (dV ao ak ar aq 0) bL.out a7.out (bq.out 0) v cV _);rintro e dJ ⟨rfl,e6⟩;have aV:J (av V V dJ):=(cq.out.alloc cq.out.size _).trans (e6.mono (by have:=cq.out.size;simp;omega));clear e6;by_cases cv:v > 0
  ·have eW:J (oN (fun k=>dN (bW,bU) (cY,cZ) (dV ao ak ar aq k)) (0+1)=L+1):=(by show _=_;rw[dR.out,aT cv]);have eg:J (oO (fun k=>dN (bW,bU) (cY,cZ) (dV ao ak ar aq k)) (0+1)=R):=(by show _=_;rw[br.out,aK (by omega),pq]);have cn:¬v<0:=(by omega);go_wp2_with fail;go_round<;>first|exact⟨0+1,L+1,R,_,rfl,by omega,by omega,by omega,by omega,by omega,eW,eg,rfl,rfl,by go_num,aV.out⟩|(simp[intOf]<;>omega)
  ·by_cases cn:v<0
   ·have eW:J (oN (fun k=>dN (bW,bU) (cY,cZ) (dV ao ak ar aq k)) (0+1)=L):=(by show _=_;rw[dR.out,aK (by omega),pq]);have eg:J (oO (fun k=>dN (bW,bU) (cY,cZ) (dV ao ak ar aq k)) (0+1)=R+1):=(by show _=_;rw[br.out,aT cn]);go_wp2_with fail;go_round<;>first|exact⟨0+1,L,R+1,_,rfl,by omega,by omega,by omega,by omega,by omega,eW,eg,rfl,rfl,by go_num,aV.out⟩|(simp[intOf]<;>omega)
   ·have eW:J (oN (fun k=>dN (bW,bU) (cY,cZ) (dV ao ak ar aq k)) (0+1)=L):=(by show _=_;rw[dR.out,aK (by omega),pq]);have eg:J (oO (fun k=>dN (bW,bU) (cY,cZ) (dV ao ak ar aq k)) (0+1)=R):=(by show _=_;rw[br.out,aK (by omega),pq]);go_wp2_with fail;go_round<;>first|exact⟨0+1,L,R,_,rfl,by omega,by omega,by omega,by omega,by omega,eW,eg,rfl,rfl,by go_num,aV.out⟩|(simp[intOf]<;>omega)
 ·
  obtain rfl:uP=1:=(by omega);have oh:∀w,(Instr.index 394 (AX ⟨ao,ak,ar,aq⟩) (I 1)).run Tryz.prog w=.ok (fA (dV ao ak ar aq 1)) w:=fun w=>EH ao ak ar aq 1 (by decide) w;obtain⟨v,aS⟩:=az (dN (bW,bU) (cY,cZ) (dV ao ak ar aq 1));have cV:=U aS;have dR:J (oN (fun k=>dN (bW,bU) (cY,cZ) (dV ao ak ar aq k)) (1+1)=L+(if 0<v then 1 else 0)):=(by show _=_;rw[←uO.out,←aS];rfl);have br:J (oO (fun k=>dN (bW,bU) (cY,cZ) (dV ao ak ar aq k)) (1+1)=R+(if v<0 then 1 else 0)):=(by show _=_;rw[←AY.out,←aS];rfl);clear aS;obtain⟨eK,er⟩:=eP (aO cm.out cq.out);obtain⟨e8,bN⟩:=eP (aO wF.out cq.out);simp only at eK er e8 bN;have dK:=lt_of_heap (aO cm.out cq.out);have e':=lt_of_heap (aO wF.out cq.out);have k6:bT (L+1)=L+1:=b4 _ (by omega);have qd:bT (R+1)=R+1:=b4 _ (by omega);go_wp2_with fail;go_fit (xU (bW,bU) (cY,cZ) (dV ao ak ar aq 1) bL.out a7.out (bq.out 1) v cV _);rintro e dJ ⟨rfl,e6⟩;have aV:J (av V V dJ):=(cq.out.alloc cq.out.size _).trans (e6.mono (by have:=cq.out.size;simp;omega));clear e6;by_cases cv:v > 0
  ·have eW:J (oN (fun k=>dN (bW,bU) (cY,cZ) (dV ao ak ar aq k)) (1+1)=L+1):=(by show _=_;rw[dR.out,aT cv]);have eg:J (oO (fun k=>dN (bW,bU) (cY,cZ) (dV ao ak ar aq k)) (1+1)=R):=(by show _=_;rw[br.out,aK (by omega),pq]);have cn:¬v<0:=(by omega);go_wp2_with fail;go_round<;>first|exact⟨1+1,L+1,R,_,rfl,by omega,by omega,by omega,by omega,by omega,eW,eg,rfl,rfl,by go_num,aV.out⟩|(simp[intOf]<;>omega)
  ·by_cases cn:v<0
   ·have eW:J (oN (fun k=>dN (bW,bU) (cY,cZ) (dV ao ak ar aq k)) (1+1)=L):=(by show _=_;rw[dR.out,aK (by omega),pq]);have eg:J (oO (fun k=>dN (bW,bU) (cY,cZ) (dV ao ak ar aq k)) (1+1)=R+1):=(by show _=_;rw[br.out,aT cn]);go_wp2_with fail;go_round<;>first|exact⟨1+1,L,R+1,_,rfl,by omega,by omega,by omega,by omega,by omega,eW,eg,rfl,rfl,by go_num,aV.out⟩|(simp[intOf]<;>omega)
   ·have eW:J (oN (fun k=>dN (bW,bU) (cY,cZ) (dV ao ak ar aq k)) (1+1)=L):=(by show _=_;rw[dR.out,aK (by omega),pq]);have eg:J (oO (fun k=>dN (bW,bU) (cY,cZ) (dV ao ak ar aq k)) (1+1)=R):=(by show _=_;rw[br.out,aK (by omega),pq]);go_wp2_with fail;go_round<;>first|exact⟨1+1,L,R,_,rfl,by omega,by omega,by omega,by omega,by omega,eW,eg,rfl,rfl,by go_num,aV.out⟩|(simp[intOf]<;>omega)
 ·
  obtain rfl:uP=2:=(by omega);have oh:∀w,(Instr.index 394 (AX ⟨ao,ak,ar,aq⟩) (I 2)).run Tryz.prog w=.ok (fA (dV ao ak ar aq 2)) w:=fun w=>EH ao ak ar aq 2 (by decide) w;obtain⟨v,aS⟩:=az (dN (bW,bU) (cY,cZ) (dV ao ak ar aq 2));have cV:=U aS;have dR:J (oN (fun k=>dN (bW,bU) (cY,cZ) (dV ao ak ar aq k)) (2+1)=L+(if 0<v then 1 else 0)):=(by show _=_;rw[←uO.out,←aS];rfl);have br:J (oO (fun k=>dN (bW,bU) (cY,cZ) (dV ao ak ar aq k)) (2+1)=R+(if v<0 then 1 else 0)):=(by show _=_;rw[←AY.out,←aS];rfl);clear aS;obtain⟨eK,er⟩:=eP (aO cm.out cq.out);obtain⟨e8,bN⟩:=eP (aO wF.out cq.out);simp only at eK er e8 bN;have dK:=lt_of_heap (aO cm.out cq.out);have e':=lt_of_heap (aO wF.out cq.out);have k6:bT (L+1)=L+1:=b4 _ (by omega);have qd:bT (R+1)=R+1:=b4 _ (by omega);go_wp2_with fail;go_fit (xU (bW,bU) (cY,cZ) (dV ao ak ar aq 2) bL.out a7.out (bq.out 2) v cV _);rintro e dJ ⟨rfl,e6⟩;have aV:J (av V V dJ):=(cq.out.alloc cq.out.size _).trans (e6.mono (by have:=cq.out.size;simp;omega));clear e6;by_cases cv:v > 0
  ·have eW:J (oN (fun k=>dN (bW,bU) (cY,cZ) (dV ao ak ar aq k)) (2+1)=L+1):=(by show _=_;rw[dR.out,aT cv]);have eg:J (oO (fun k=>dN (bW,bU) (cY,cZ) (dV ao ak ar aq k)) (2+1)=R):=(by show _=_;rw[br.out,aK (by omega),pq]);have cn:¬v<0:=(by omega);go_wp2_with fail;go_round<;>first|exact⟨2+1,L+1,R,_,rfl,by omega,by omega,by omega,by omega,by omega,eW,eg,rfl,rfl,by go_num,aV.out⟩|(simp[intOf]<;>omega)
  ·by_cases cn:v<0
   ·have eW:J (oN (fun k=>dN (bW,bU) (cY,cZ) (dV ao ak ar aq k)) (2+1)=L):=(by show _=_;rw[dR.out,aK (by omega),pq]);have eg:J (oO (fun k=>dN (bW,bU) (cY,cZ) (dV ao ak ar aq k)) (2+1)=R+1):=(by show _=_;rw[br.out,aT cn]);go_wp2_with fail;go_round<;>first|exact⟨2+1,L,R+1,_,rfl,by omega,by omega,by omega,by omega,by omega,eW,eg,rfl,rfl,by go_num,aV.out⟩|(simp[intOf]<;>omega)
   ·have eW:J (oN (fun k=>dN (bW,bU) (cY,cZ) (dV ao ak ar aq k)) (2+1)=L):=(by show _=_;rw[dR.out,aK (by omega),pq]);have eg:J (oO (fun k=>dN (bW,bU) (cY,cZ) (dV ao ak ar aq k)) (2+1)=R):=(by show _=_;rw[br.out,aK (by omega),pq]);go_wp2_with fail;go_round<;>first|exact⟨2+1,L,R,_,rfl,by omega,by omega,by omega,by omega,by omega,eW,eg,rfl,rfl,by go_num,aV.out⟩|(simp[intOf]<;>omega)
 ·
  obtain rfl:uP=3:=(by omega);have oh:∀w,(Instr.index 394 (AX ⟨ao,ak,ar,aq⟩) (I 3)).run Tryz.prog w=.ok (fA (dV ao ak ar aq 3)) w:=fun w=>EH ao ak ar aq 3 (by decide) w;obtain⟨v,aS⟩:=az (dN (bW,bU) (cY,cZ) (dV ao ak ar aq 3));have cV:=U aS;have dR:J (oN (fun k=>dN (bW,bU) (cY,cZ) (dV ao ak ar aq k)) (3+1)=L+(if 0<v then 1 else 0)):=(by show _=_;rw[←uO.out,←aS];rfl);have br:J (oO (fun k=>dN (bW,bU) (cY,cZ) (dV ao ak ar aq k)) (3+1)=R+(if v<0 then 1 else 0)):=(by show _=_;rw[←AY.out,←aS];rfl);clear aS;obtain⟨eK,er⟩:=eP (aO cm.out cq.out);obtain⟨e8,bN⟩:=eP (aO wF.out cq.out);simp only at eK er e8 bN;have dK:=lt_of_heap (aO cm.out cq.out);have e':=lt_of_heap (aO wF.out cq.out);have k6:bT (L+1)=L+1:=b4 _ (by omega);have qd:bT (R+1)=R+1:=b4 _ (by omega);go_wp2_with fail;go_fit (xU (bW,bU) (cY,cZ) (dV ao ak ar aq 3) bL.out a7.out (bq.out 3) v cV _);rintro e dJ ⟨rfl,e6⟩;have aV:J (av V V dJ):=(cq.out.alloc cq.out.size _).trans (e6.mono (by have:=cq.out.size;simp;omega));clear e6;by_cases cv:v > 0
  ·have eW:J (oN (fun k=>dN (bW,bU) (cY,cZ) (dV ao ak ar aq k)) (3+1)=L+1):=(by show _=_;rw[dR.out,aT cv]);have eg:J (oO (fun k=>dN (bW,bU) (cY,cZ) (dV ao ak ar aq k)) (3+1)=R):=(by show _=_;rw[br.out,aK (by omega),pq]);have cn:¬v<0:=(by omega);go_wp2_with fail;go_round<;>first|exact⟨3+1,L+1,R,_,rfl,by omega,by omega,by omega,by omega,by omega,eW,eg,rfl,rfl,by go_num,aV.out⟩|(simp[intOf]<;>omega)
  ·by_cases cn:v<0
   ·have eW:J (oN (fun k=>dN (bW,bU) (cY,cZ) (dV ao ak ar aq k)) (3+1)=L):=(by show _=_;rw[dR.out,aK (by omega),pq]);have eg:J (oO (fun k=>dN (bW,bU) (cY,cZ) (dV ao ak ar aq k)) (3+1)=R+1):=(by show _=_;rw[br.out,aT cn]);go_wp2_with fail;go_round<;>first|exact⟨3+1,L,R+1,_,rfl,by omega,by omega,by omega,by omega,by omega,eW,eg,rfl,rfl,by go_num,aV.out⟩|(simp[intOf]<;>omega)
   ·have eW:J (oN (fun k=>dN (bW,bU) (cY,cZ) (dV ao ak ar aq k)) (3+1)=L):=(by show _=_;rw[dR.out,aK (by omega),pq]);have eg:J (oO (fun k=>dN (bW,bU) (cY,cZ) (dV ao ak ar aq k)) (3+1)=R):=(by show _=_;rw[br.out,aK (by omega),pq]);go_wp2_with fail;go_round<;>first|exact⟨3+1,L,R,_,rfl,by omega,by omega,by omega,by omega,by omega,eW,eg,rfl,rfl,by go_num,aV.out⟩|(simp[intOf]<;>omega)
 ·
  obtain rfl:uP=4:=(by omega);have aE:J ((decide (L<4)&&decide (R<4))=f):=(by show _=_;rw[←uO.out,←AY.out];exact bB.out);go_wp2_with fail
  all_goals
   go_ret;refine⟨ej (CE ⟨fun h=>?_,fun h=>?_⟩ aE.out),cd.out.trans (cq.out.mono cd.out.size)⟩<;>simp only[gy,gH,oE] at h⊢<;>omega
end dE
