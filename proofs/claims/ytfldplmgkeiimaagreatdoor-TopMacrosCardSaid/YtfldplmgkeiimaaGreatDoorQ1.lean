/- Lemmas. -/
import Derived.Test.YtfldplmgkeiimaaGreatDoorQ0
set_option linter.all false
namespace Go.Proofs.YtfldplmgkeiimaaGreatDoor
abbrev GB:=@List.foldl_nil
abbrev fS:=@Prod.mk.injEq
abbrev oJ:=@Int.le_refl
abbrev RC:=@Int.pow_nonneg
abbrev GC:=@List.length_singleton
abbrev RD:=@Nat.succ_mul
abbrev gW:=@Int.mul_nonneg
abbrev Ns:=@Int.mul_le_mul_of_nonneg_right
abbrev JJ:=@Int.mul_le_mul_of_nonneg_left
abbrev RE:=@Int.ediv_nonneg
abbrev XK:=@List.mem_or_eq_of_mem_set
abbrev B3:=@List.getD_eq_getElem?_getD
abbrev GD:=@List.mem_of_getElem?
abbrev vU:=@List.mem_cons
abbrev vV:=@List.not_mem_nil
abbrev uj:=@or_false
abbrev DS:=@Bool.or_eq_true
abbrev Af:=@List.mem_cons_of_mem
abbrev RF:=@List.mem_cons_self
abbrev pq:=@Bool.false_eq_true
abbrev GF:=@List.all_cons
abbrev RG:=@List.all_nil
abbrev RH:=@Bool.and_true
abbrev RI:=@Bool.not_eq_true'
abbrev RJ:=@Bool.and_eq_false_iff
abbrev DT:=@decide_eq_false_iff_not
abbrev yY:=@decide_eq_decide
abbrev yZ:=@if_false
abbrev eT:=@decide_eq_false
abbrev e':=@decide_eq_true
namespace dH
open vM (gV)
open Fr (Nl pW B1)
open bS (eg lV)
def k4(p:bK)(r:Int):cJ:={gu with k:=1,a:=p,r:=r}
def DU(p q:bK)(r:Int):cJ:={gu with k:=3,a:=p,b:=q,r:=r}
def j8(l:List (List bK)):cJ:={gu with k:=2,l:=l}
def ew:cJ:={gu with k:=6}
def gX(b:cJ):dK:=⟨b,.nil⟩
def xl(c:bK)(w h:Int):List bK:=[(c.1-w,c.2-h),(c.1+w,c.2-h),(c.1+w,c.2+h),(c.1-w,c.2+h)]
def RL(n d u:Int):Int×Nat:=
 if (Nl 3 n d 0 1).2.2≠0 then (0,5)
 else if u≠1∧u≠2 then (0,5)
 else if (n *(if u=1 then 10000000 else 254000000)).tmod d≠0 then (0,7)
 else if (n *(if u=1 then 10000000 else 254000000)).tdiv d< -536870912∨536870912<(n *(if u=1 then 10000000 else 254000000)).tdiv d then (0,5)
 else ((n *(if u=1 then 10000000 else 254000000)).tdiv d,0)
structure gY where
 v:List (Int×Int)
 e:Nat
def gY.fail(t:gY)(e:Nat):gY:=if t.e=0 then {t with e:=e} else t
def gY.next(t:gY):(Int×Int)× gY:=(t.v.headD (0,0),{t with v:=t.v.drop 1})
def gY.len(t:gY)(u:Int):Int×gY:=((RL t.next.1.1 t.next.1.2 u).1,t.next.2.fail (RL t.next.1.1 t.next.1.2 u).2)
def gY.kH(t:gY)(u:Int):bK×gY:=(((t.len u).1,((t.len u).2.len u).1),((t.len u).2.len u).2)
def gY.half(t:gY)(u:Int):Int×gY:=
 let g:=(t.len u).1;let t1:=if g<0 then (t.len u).2.fail 4 else (t.len u).2
 (g.tdiv 2,if g.tmod 2≠0 then t1.fail 7 else t1)
def gY.JK(t:gY):fR×gY:=
 if t.v=[] then (h1,t) else
 ({h1 with q:=(t.next.1.1.tdiv 90).tmod 4},if t.next.1.2≠1∨t.next.1.1.tmod 90≠0 then t.next.2.fail 7 else t.next.2)
def gY.JL(u:Int):Nat→gY→List bK×gY
 |0,t=>([],t)
 |n+1,t=>((t.kH u).1::(gY.JL u n (t.kH u).2).1,(gY.JL u n (t.kH u).2).2)
def gY.RM(t:gY)(k u:Int)(n:Nat):dK×Bool×gY:=
 if k=1 then
  let (r,t):=t.half u;let (c,t):=t.kH u
  (gX (k4 c r),decide (0<r),t)
 else if k=20 then
  let (r,t):=t.half u;let (a,t):=t.kH u;let (b,t):=t.kH u
  (gX {gu with k:=4,a:=a,b:=b,r:=r},decide (0<r)&&decide (a≠b),t)
 else if k=21 then
  let (w,t):=t.half u;let (h,t):=t.half u;let (c,t):=t.kH u
  (gX (j8 [xl c w h]),decide (0<w)&&decide (0<h),t)
 else if k=4 then
  let v:=t.next.1;let t:=if v.2≠1∨v.1<1∨500<v.1∨2 *v.1+5≠(n:Int) then t.next.2.fail 4 else t.next.2
  let (l,t):=gY.JL u ((n-3)/ 2) t
  (gX (j8 [l.dropLast]),true,if l.getLast?≠l.head? then t.fail 4 else t)
 else if k=7 then
  let (c,t):=t.kH u;let (o,t):=t.half u;let (i,t):=t.half u;let (g,t):=t.half u;let t:=if o≤i∨o≤g then t.fail 4 else t
  (⟨ew,.cons true (k4 c o) .nil
   ((if 0<i then bc.cons false (k4 c i) .nil .nil else .nil).append
   (if 0<g then .cons false (j8 [xl c o g]) .nil (.cons false (j8 [xl c g o]) .nil .nil) else .nil))⟩,true,t)
 else (Rt,true,t)
def DV(k u:Int)(v:List (Int×Int)):bc×Nat:=
 let t:gY:=⟨v,0⟩;let add:=if k≠7 then decide (t.next.1.1=1) else true
 let t:=if k≠7 then (if t.next.1.2≠1∨(t.next.1.1≠0∧t.next.1.1≠1) then t.next.2.fail 4 else t.next.2) else t
 let p:=t.RM k u v.length;let s:=p.2.2.JK
 if s.2.e≠0∨p.2.1=false then (.nil,s.2.e) else match po s.1 p.1 with
  |none=>(.nil,5)
  |some m=>(.one add m,0)
def GG(vars:List (Int×Int)):List (List (Int×Int))→Except Nat (List (Int×Int))
 |[]=>.ok []
 |a::l=>if (B1 vars a).2.2≠0 then .error (B1 vars a).2.2 else match GG vars l with
  |.error e=>.error e
  |.ok r=>.ok (((B1 vars a).1,(B1 vars a).2.1)::r)
def RN(b:eg):Bool:=
 if b.k=1 then decide (b.n=0)&&decide (b.args.length=0)
 else if b.k=2 then decide (1≤b.n)&&(decide (b.n≤99)&&decide (b.args.length=1))
 else if b.k=3 then lV b.n b.args.length
 else false
def Ag(u:Int):List eg→List (Int×Int)→bc→Except Nat bc
 |[],_,p=>.ok p
 |b::l,vars,p=>match GG vars b.args with
  |.error e=>.error e
  |.ok v=>if b.k=2 then Ag u l (vars.set (b.n.toNat-1) (v.headD (0,0))) p
   else if b.k=3 then (if (DV b.n u v).2≠0 then .error (DV b.n u v).2 else if 900<(p.append (DV b.n u v).1).count+1 then .error 6 else Ag u l vars (p.append (DV b.n u v).1))
   else Ag u l vars p
def Nt(l:List eg)(args:List (Int×Int))(u:Int):Except Nat dK:=
 if 500<l.length∨l.all RN=false then .error 3 else match Ag u l ((args++List.replicate (99-args.length) (0,1)).take 99) .nil with
  |.error e=>.error e
  |.ok p=>.ok ⟨ew,p⟩
structure jz where
 name:List UInt8
 b:List eg
def mP(s:Nat)(u:Int):List Int→Nat→Except Nat (List Int)
 |[],_=>.ok []
 |n::l,i=>match gV n u with
  |none=>.error 5
  |some g=>if g<0∨(g=0∧s=2∧i<s) then .error 4 else if g.tmod 2≠0 then .error 7 else match mP s u l (i+1) with
   |.error e=>.error e
   |.ok r=>.ok (g.tdiv 2::r)
def JM:List Int→Except Nat (List (Int×Int))
 |[]=>.ok []
 |n::l=>if (pW n 1000000).2.2≠0 then .error (pW n 1000000).2.2 else match JM l with
  |.error e=>.error e
  |.ok r=>.ok (((pW n 1000000).1,(pW n 1000000).2.1)::r)
def XL(name:au)(ms:List jz):Option jz:=ms.reverse.find? fun m=>m.name==name
def RO(name:au)(b6:List Int)(u:Int)(ms:List jz):Except Nat (dK×Int):=match XL name ms with
 |none=>.error 4
 |some m=>match JM b6 with
  |.error e=>.error e
  |.ok a=>match Nt m.b a u with
   |.error e=>.error e
   |.ok s=>.ok (s,0)
def GH(r:Int):cJ:=if r=0 then ew else k4 (0,0) r
def Nu(w h:Int):cJ:=j8 [[(-w,-h),(w,-h),(w,h),(-w,h)]]
def GI(w h:Int):cJ:=if h<w then DU (h-w,0) (w-h,0) h else if w<h then DU (0,w-h) (0,h-w) w else k4 (0,0) w
def y0(b:cJ)(h:Int):dK:=if 0<h then⟨ew,.cons true b .nil (.cons false (k4 (0,0) h) .nil .nil)⟩ else gX b
def j9(name:au)(b6:List Int)(u:Int)(ms:List jz):Except Nat (dK×Int):=
 if name=[67]∨name=[82]∨name=[79] then
  let s:=if name=[67] then 1 else 2
  if b6.length≠s∧b6.length≠s+1 then .error 4 else match mP s u b6 0 with
   |.error e=>.error e
   |.ok h=>let g:=fun i=>h.getD i 0
    if name=[67] then .ok (y0 (GH (g 0)) (g 1),if g 1=0 then g 0 else 0)
    else if name=[82] then .ok (y0 (Nu (g 0) (g 1)) (g 2),0)
    else .ok (y0 (GI (g 0) (g 1)) (g 2),0)
 else RO name b6 u ms
end dH
namespace dH
open vM (gV k3 rJ)
open bS (eg C j7)
abbrev dx:=Bool×dK
structure ks where
 cF:dK
 r:Int
 round:Bool
 block:Bool
 fc:List dx
structure qv where
 step:Bool
 code:Int
 n:Int
 m:Int
 eL:bK
 fc:List dx
def GJ:qv:=⟨false,0,0,0,(0,0),[]⟩
structure cH where
 unit:Int
 kI:Int
 fd:Int
 fs:Bool
 formed:Bool
 jA:Int→Option ks
 uk:Int
 fB:List jz
 at_:bK
 mode:Int
 RP:Bool
 i1:Bool
 dm:fR
 region:Bool
 rM:List (List bK)
 top:qv
 levels:List qv
 made:Int
 budget:Int
 ended:Bool
def qZ(b:Int):cH:=⟨0,0,0,false,false,fun _=>none,0,[],(0,0),1,false,true,h1,false,[],GJ,[],0,min (max b 0) 100000,false⟩
def oK(p:cH)(i1:Bool)(s:dK):Except Nat cH:=
 if okV s=false then .error 5 else if p.budget≤p.made then .error 6 else .ok {p with made:=p.made+1,top:={p.top with fc:=p.top.fc++[(i1,s)]}}
def kt(p:cH)(i1:Bool)(s:dK)(t:fR):Except Nat cH:=match po t s with
 |none=>.error 5
 |some m=>oK p i1 m
def lW(f:Bool→Bool)(t:fR):List dx→cH→Except Nat cH
 |[],p=>.ok p
 |o::l,p=>match kt p (f o.1) o.2 t with
  |.error e=>.error e
  |.ok q=>lW f t l q
def Ah(p:cH)(code:Int):Bool:=(p.jA code).isSome ||(p.top::p.levels).dropLast.any fun v=>!v.step&&decide (v.code=code)
def XM(l:List (List bK)):Bool:=match l.getLast? with
 |none=>true
 |some c=>decide (4≤c.length)&&decide (c.head?=c.getLast?)
def aiS(p:cH):Except Nat cH:=
 if XM p.rM=false then .error 4
 else if 1000<((p.rM.map List.dropLast).map List.length).sum then .error 6
 else if p.rM=[] then .ok {p with rM:=[]}
 else oK {p with rM:=[]} p.i1 (gX (j8 (p.rM.map List.dropLast)))
def aiU(p:cH)(xm:bK):Except Nat cH:=
 if p.region=false then .ok p else if XM p.rM=false then .error 4 else .ok {p with rM:=p.rM++[[xm]]}
def sV(p:cH)(xm:bK):Except Nat cH:=match p.jA p.uk with
 |none=>.error 4
 |some a=>if p.region=true then .error 4 else if a.block=false then kt p p.i1 a.cF {p.dm with eL:=xm} else lW (fun d=>decide (d=p.i1)) {p.dm with eL:=xm} a.fc p
def aiV(l:List (List bK))(q:bK):List (List bK):=l.dropLast++[l.getLastD [] ++[q]]
def aiW(p:cH)(c:C)(xm mid:bK):Except Nat cH:=
 if p.mode≠1∧p.region=true then .error 8
 else if p.mode≠1∧p.RP=false then .error 4
 else if p.mode=1∧(c.i≠[]∨c.j≠[]) then .error 4
 else if p.region=true then (if p.rM=[] then .error 4 else .ok {p with rM:=aiV p.rM xm})
 else match p.jA p.uk with
  |none=>.error 4
  |some a=>if a.round=false then .error 4
   else if p.mode=1 then (if a.r=0 then .ok p else oK p p.i1 (gX (DU p.at_ xm a.r)))
   else
    let x:=if p.mode=2 then xm else p.at_
    let y:=if p.mode=2 then p.at_ else xm
    let z:bK:=(p.at_.1+mid.1,p.at_.2+mid.2)
    if JD z x y=false then .error 9 else if a.r=0 then .ok p else oK p p.i1 (gX {gu with k:=5,a:=x,b:=y,c:=z,r:=a.r})
def iz(p:cH)(s:au)(was:Int):Option Int:=if s=[] then some was else k3 s p.unit p.kI p.fd p.fs
def q0(p:cH)(c:C):Except Nat cH:=
 if p.unit=0∨p.formed=false then .error 4 else match iz p c.x p.at_.1 with
 |none=>.error 5
 |some x=>match iz p c.y p.at_.2 with
  |none=>.error 5
  |some y=>match iz p c.i 0 with
   |none=>.error 5
   |some i=>match iz p c.j 0 with
    |none=>.error 5
    |some j=>match (if c.n=1 then aiW p c (x,y) (i,j) else if c.n=2 then aiU p (x,y) else if c.n=3 then sV p (x,y) else .error 4) with
     |.error e=>.error e
     |.ok q=>.ok {q with at_:=(x,y)}
def aiX(p:cH)(c:C):Except Nat cH:=
 if Ah p c.n=true then .error 4 else if 16≤p.levels.length then .error 6 else .ok {p with top:={GJ with code:=c.n},levels:=p.top::p.levels}
def lp(c:C)(i:Nat):Int:=c.b6.getD i 0
def aiY(p:cH)(c:C):Except Nat cH:=
 if (p.top::p.levels).any (fun v=>v.step)=true then .error 4
 else if 16≤p.levels.length then .error 6
 else if c.n<1∨c.m<1∨lp c 0<0∨lp c 1<0 then .error 4
 else if 10000<c.n∨10000<c.m∨10000<c.n *c.m then .error 6
 else if p.unit=0 then .error 4
 else match gV (lp c 0) p.unit with
  |none=>.error 5
  |some x=>match gV (lp c 1) p.unit with
   |none=>.error 5
   |some y=>.ok {p with top:={GJ with step:=true,n:=c.n,m:=c.m,eL:=(x,y)},levels:=p.top::p.levels}
def aiZ(p:cH):Except Nat cH:=match p.levels with
 |[]=>.error 4
 |v::l=>if p.top.step=true then .error 4 else .ok {p with top:=v,levels:=l,jA:=fun j=>if j=p.top.code then some ⟨Rt,0,false,true,p.top.fc⟩ else p.jA j}
def XN(v:qv)(x:Int):Nat→Int→cH→Except Nat cH
 |0,_,p=>.ok p
 |k+1,y,p=>match lW id {h1 with eL:=(x *v.eL.1,y *v.eL.2)} v.fc p with
  |.error e=>.error e
  |.ok q=>XN v x k (y+1) q
def XO(v:qv):Nat→Int→cH→Except Nat cH
 |0,_,p=>.ok p
 |k+1,x,p=>match XN v x v.m.toNat 0 p with
  |.error e=>.error e
  |.ok q=>XO v k (x+1) q
def ai0(p:cH):Except Nat cH:=match p.levels with
 |[]=>.error 4
 |v::l=>if p.top.step=false then .error 4 else XO p.top p.top.n.toNat 0 {p with top:=v,levels:=l}
def mO(p:cH)(c:C):Except Nat cH:=
 if p.unit=0∨Ah p c.n=true then .error 4 else match j9 c.t c.b6 p.unit p.fB with
  |.error e=>.error e
  |.ok (s,r)=>.ok {p with jA:=fun j=>if j=c.n then some ⟨s,r,decide (c.t=[67])&&(decide (c.b6.length=1)|| decide (c.b6.getD 1 0=0)),false,[]⟩ else p.jA j}
def Ai(p:cH)(c:C):Except Nat cH:=
 if c.k=8 then (if p.formed=true∨rJ 1 c.n c.m=false then .error 4 else .ok {p with kI:=c.n,fd:=c.m,fs:=c.on,formed:=true})
 else if c.k=9 then (if p.unit≠0 then .error 4 else .ok {p with unit:=c.n})
 else if c.k=19 then (if p.fB.any (fun m=>m.name==c.t)=true then .error 4 else .ok {p with fB:=p.fB++[⟨c.t,c.blocks⟩]})
 else mO p c
def DW(p:cH)(c:C):Except Nat cH:=
 if c.k=2 then .ok {p with mode:=c.n}
 else if c.k=4 then .ok {p with RP:=true}
 else if c.k=6 then (if (p.jA c.n).isSome=false then .error 4 else .ok {p with uk:=c.n})
 else if c.k=15 then .ok {p with i1:=c.on}
 else if c.k=16 then .ok {p with dm:={p.dm with bD:=decide (c.n=1)|| decide (c.n=3),bR:=decide (c.n=2)|| decide (c.n=3)}}
 else if (lp c 0).tmod 90000000≠0 then .error 7 else .ok {p with dm:={p.dm with q:=((lp c 0).tdiv 90000000).tmod 4}}
def j'(p:cH)(c:C):Except Nat cH:=
 if p.ended=true then .error 4
 else if p.region=true∧(c.k=6∨(11≤c.k∧c.k≤17)) then .error 4
 else if c.k=1∨c.k=18 then .ok p
 else if c.k=8∨c.k=9∨c.k=10∨c.k=19 then Ai p c
 else if c.k=2∨c.k=4∨c.k=6∨c.k=15∨c.k=16∨c.k=17 then DW p c
 else if c.k=3 then (if p.region=c.on then .error 4 else if c.on=true then .ok {p with region:=true} else aiS {p with region:=false})
 else if c.k=7 then q0 p c
 else if c.k=11 then aiX p c
 else if c.k=13 then aiY p c
 else if c.k=12 then aiZ p
 else if c.k=14 then ai0 p
 else if c.k=5 then (if p.region=true∨p.levels≠[] then .error 4 else .ok {p with ended:=true})
 else .error 4
def lr:List C→Nat→cH→Except (Nat×Nat) cH
 |[],_,p=>.ok p
 |c::l,i,p=>match j' p c with
  |.error e=>.error (i,e)
  |.ok q=>lr l (i+1) q
def xn(l:List C)(b:Int):List dx×Nat×Nat:=match lr l 0 (qZ b) with
 |.error (i,e)=>([],i,e)
 |.ok p=>if p.ended=false then ([],l.length,11) else (p.top.fc,0,0)
def mQ(s:au)(b:Int):List dx×Nat×Nat:=match j7 s with
 |(l,a,e)=>if e≠0 then ([],a,e) else match xn (l.map Prod.snd) b with
  |(o,i,f)=>if f=0 then (o,0,0) else if i<l.length then ([],((l.map Prod.fst)[i]?).getD 0,f) else ([],s.length,f)
def kJ(l:List dx)(x:bO):Int:=l.foldl (fun k o=>nZ k (k2 x o.2) o.1) 0
structure iA where
 x:Int
 y:Int
 ht:Int
 w:Int
 h:Int
 depth:Int
deriving DecidableEq
def pZ(v:iA):Bool:=
 if v.depth<0∨6<v.depth then false
 else if v.ht<1∨536870912<v.ht∨v.ht%(2^v.depth.toNat)≠0 then false
 else if v.w<1∨256<v.w∨v.h<1∨256<v.h then false
 else if v.x< -536870912∨536870912<v.x∨v.y< -536870912∨536870912<v.y then false
 else okB ⟨v.x,v.y,v.x+v.w *v.ht,v.y+v.h *v.ht⟩
def mR(v:iA)(x y:Nat):bO:=⟨v.x+x *v.ht,v.y+(v.h-1-y) *v.ht,v.x+x *v.ht+v.ht,v.y+(v.h-1-y) *v.ht+v.ht⟩
def Aj(v:iA):Int:=4^v.depth.toNat
abbrev eM:=Int×Int
structure eB where
 o:dx
 b:bO
 any:Bool
def B4:bc→Bool
 |.nil=>false
 |.cons _ b s r=>(decide (b.k=4)|| B4 s)|| B4 r
def Ak(s:dK):Bool:=decide (s.b.k=4)|| B4 s.p
def jM(l:List dx):List eB:=l.filterMap fun o=>(sR o.2).map fun b=>⟨o,b,Ak o.2⟩
def fj(g:List eB)(b:bO):List eB:=g.filter fun e=>e.any || !sQ e.b b
def n1:Nat→List eB→bO→Int→Option eM×Int
 |0,g,b,m=>if m≤0 then (none,m-1) else
  let k:=kJ (g.map eB.o) b
  (some (if k=0 then (0,0) else if k=2 then (1,1) else (0,1)),m-1)
 |d+1,g,b,m=>if m≤0 then (none,m-1) else
  let k:=kJ (g.map eB.o) b
  if k=0 then (some (0,0),m-1)
  else if k=2 then (some (4 ^(d+1),4 ^(d+1)),m-1)
  else (splitB b).foldl (fun (s:Option eM×Int) q=>match s with
   |(none,m)=>(none,m)
   |(some c,m)=>match n1 d (fj g q) q m with
    |(none,m)=>(none,m)
    |(some e,m)=>(some (c.1+e.1,c.2+e.2),m)) (some (0,0),m-1)
def oL(v:iA)(g:List eB)(y:Nat):Nat→Nat→List eM→Int→Option (List eM)× Int
 |0,_,acc,m=>(some acc,m)
 |k+1,x,acc,m=>match n1 v.depth.toNat (fj g (mR v x y)) (mR v x y) m with
  |(none,m)=>(none,m)
  |(some c,m)=>oL v g y k (x+1) (acc++[c]) m
def sW(v:iA)(y:Nat):bO:=⟨(mR v 0 y).aD,(mR v 0 y).aC,(mR v (v.w.toNat-1) y).aG,(mR v (v.w.toNat-1) y).aE⟩
def q1(v:iA)(g:List eB):Nat→Nat→List eM→Int→Option (List eM)× Int
 |0,_,acc,m=>(some acc,m)
 |k+1,y,acc,m=>match oL v (fj g (sW v y)) y v.w.toNat 0 acc m with
  |(none,m)=>(none,m)
  |(some a,m)=>q1 v g k (y+1) a m
def sX(l:List dx)(v:iA)(m:Int):Option (List eM)× Int:=q1 v (jM l) v.h.toNat 0 [] m
def nw(c:Int):Int×Int:=(65536 *max 0 (min c 255),65536 *max 0 (min c 255))
def q2(t:Int×Int):Bool:=decide (0≤t.1)&&(decide (t.1≤t.2)&&decide (t.2≤16711680))
def GK(v:eM)(cells:Int):Bool:=decide (1≤cells)&&(decide (cells≤4096)&&(decide (0≤v.1)&&(decide (v.1≤v.2)&&decide (v.2≤cells))))
def um(t:Int)(c al k cells:Int):Int:=t *(255 *cells-al *k)+65536 *c *(al *k)
def B5(t:Int×Int)(c al:Int)(v:eM)(cells:Int):Int:=min (min (min (um t.1 c al v.1 cells) (um t.2 c al v.1 cells)) (um t.1 c al v.2 cells)) (um t.2 c al v.2 cells)
def B6(t:Int×Int)(c al:Int)(v:eM)(cells:Int):Int:=max (max (max (um t.1 c al v.1 cells) (um t.2 c al v.1 cells)) (um t.1 c al v.2 cells)) (um t.2 c al v.2 cells)
def rN(t:Int×Int):Int:=if q2 t=true then (t.1+t.2+65536)/ 131072 else 0
def oM(d:Nat)(g:List eB)(s:Option eM×Int)(q:bO):Option eM×Int:=match s with
 |(none,m)=>(none,m)
 |(some c,m)=>match n1 d (fj g q) q m with
  |(none,m)=>(none,m)
  |(some e,m)=>(some (c.1+e.1,c.2+e.2),m)
theorem ai1(d:Nat)(g:List eB)(m:Int)(q:bO):oM d g (none,m) q=(none,m):=rfl
theorem RQ(d:Nat)(g:List eB)(m:Int):∀l:List bO,l.foldl (oM d g) (none,m)=(none,m)
 |[]=>rfl
 |q::l=>by rw[nW,ai1];exact RQ d g m l
variable{d:Nat}{g:List eB}{c m cS cells aD aC aG aE:Int}{q b:bO}
theorem XP{c:eM}(h:n1 d (fj g q) q m=(none,cS)):oM d g (some c,m) q=(none,cS):=by simp only[oM,h]
theorem RR{c e:eM}(h:n1 d (fj g q) q m=(some e,cS)):oM d g (some c,m) q=(some (c.1+e.1,c.2+e.2),cS):=by simp only[oM,h]
theorem B7(d:Nat)(g:List eB)(b:bO)(m:Int):n1 (d+1) g b m=if m≤0 then (none,m-1) else
 if kJ (g.map eB.o) b=0 then (some (0,0),m-1)
 else if kJ (g.map eB.o) b=2 then (some (4 ^(d+1),4 ^(d+1)),m-1)
 else (splitB b).foldl (oM d g) (some (0,0),m-1):=rfl
theorem B8(g:List eB)(b:bO)(m:Int):n1 0 g b m=if m≤0 then (none,m-1) else
 (some (if kJ (g.map eB.o) b=0 then (0,0) else if kJ (g.map eB.o) b=2 then (1,1) else (0,1)),m-1):=rfl
theorem Nv(was cls:Int)(add:Bool)(h:0≤was∧was≤2):0≤nZ was cls add∧nZ was cls add≤2:=by
 unfold nZ
 repeat' split
 all_goals omega
theorem ai2(l:List dx)(x:bO):0≤kJ l x∧kJ l x≤2:=by
 unfold kJ
 have key:∀(l:List dx) (k:Int),0≤k∧k≤2→0≤l.foldl (fun k o=>nZ k (k2 x o.2) o.1) k∧l.foldl (fun k o=>nZ k (k2 x o.2) o.1) k≤2:=by
  intro l
  induction l with
  |nil=>intro k h;exact h
  |cons a l cT=>intro k h;rw[nW];exact cT _ (Nv _ _ _ h)
 exact key l 0 (by decide)
def pr(k:Int)(c:eM):Prop:=0≤c.1∧c.1≤c.2∧c.2≤k
theorem XQ(d:Nat)(g:List eB)(P:Int)(hv:0≤P)(cT:∀q m c cS,n1 d (fj g q) q m=(some c,cS)→pr P c∧0≤cS∧cS<m):∀(l:List bO) (K:Int) (c:eM) (m:Int) (r:eM) (cS:Int),pr K c→0≤m→l.foldl (oM d g) (some c,m)=(some r,cS)→pr (K+l.length *P) r∧0≤cS∧cS≤m
 |[],K,c,m,r,cS,hc,hm,h=>by simp only[GB,fS,mi] at h;obtain⟨rfl,rfl⟩:=h;simp only[rC];exact⟨by unfold pr at hc⊢;omega,hm,oJ _⟩
 |q::l,K,c,m,r,cS,hc,hm,h=>by
  rw[nW] at h;cases he:n1 d (fj g q) q m with
  |mk o m1=>
   cases o with
   |none=>
    rw[XP he,RQ] at h;simp at h
   |some e=>
    rw[RR he] at h;obtain⟨av,az,aF⟩:=cT q m e m1 he;have DX:pr (K+P) (c.1+e.1,c.2+e.2):=(by unfold pr at hc av⊢;simp only;omega);obtain⟨bk,b9,cW⟩:=XQ d g P hv cT l (K+P) _ m1 r cS DX az h;refine⟨?_,b9,by omega⟩;have:K+((q::l).length:Int) *P=K+P+(l.length:Int) *P:=(by simp only[eP];grind);rw[this];exact bk
theorem Nw:∀(d:Nat) (g:List eB) (b:bO) (m:Int) (c:eM) (cS:Int),n1 d g b m=(some c,cS)→pr (4^d) c∧0≤cS∧cS<m
 |0,g,b,m,c,cS,h=>by
  rw[B8] at h;split at h
  ·simp at h
  ·simp only[fS,mi] at h;obtain⟨rfl,rfl⟩:=h;refine⟨?_,by omega,by omega⟩;unfold pr
   repeat' split
   all_goals decide
 |d+1,g,b,m,c,cS,h=>by
  have hp:(0:Int)≤4^d:=RC (by decide);rw[B7] at h;split at h
  ·simp at h
  ·split at h
   ·simp only[fS,mi] at h;obtain⟨rfl,rfl⟩:=h;refine⟨?_,by omega,by omega⟩;have:(0:Int)≤4 ^(d+1):=RC (by decide);exact⟨oJ _,oJ _,this⟩
   ·split at h
    ·simp only[fS,mi] at h;obtain⟨rfl,rfl⟩:=h;refine⟨?_,by omega,by omega⟩;have:(0:Int)≤4 ^(d+1):=RC (by decide);exact⟨this,oJ _,oJ _⟩
    ·obtain⟨av,az,aF⟩:=XQ d g (4^d) hp (fun q m c cS h=>Nw d _ q m c cS h) (splitB b) 0 (0,0) (m-1) c cS (by unfold pr;decide) (by omega) h;refine⟨?_,az,by omega⟩;have e:(0:Int)+((splitB b).length:Int) *4^d=4 ^(d+1):=(by simp only[splitB,eP,rC];rw[Int.pow_succ];omega);rw[e] at av;exact av
theorem XR{lo hi:Int}(h:(hi-lo)%2 ^(d+1)=0∧0<hi-lo):((hi-lo)%2=0)∧0<(hi-lo)/ 2∧((hi-lo)/ 2)%2^d=0∧hi -(lo+(hi-lo)/ 2)=(hi-lo)/ 2:=by
 obtain⟨av,az⟩:=h;obtain⟨k,ax⟩:=Int.dvd_of_emod_eq_zero av;rw[Int.pow_succ] at ax;have e:hi-lo=2 *(2^d *k):=by rw[ax];grind
 have a6:(hi-lo)/ 2=2^d *k:=by rw[e];exact Int.mul_ediv_cancel_left _ (by decide)
 refine⟨by omega,by omega,?_,by omega⟩;rw[a6];exact Int.mul_emod_right _ _
theorem XS(v:iA)(g:List eB)(y:Nat):∀(k x:Nat) (acc:List eM) (m:Int) (r:List eM) (cS:Int),0≤m→oL v g y k x acc m=(some r,cS)→(∀c∈acc,pr (4^v.depth.toNat) c)→(∀c∈r,pr (4^v.depth.toNat) c)∧r.length=acc.length+k∧0≤cS∧cS≤m
 |0,x,acc,m,r,cS,hm,h,ha=>by simp only[oL,fS,mi] at h;obtain⟨rfl,rfl⟩:=h;exact⟨ha,rfl,hm,oJ _⟩
 |k+1,x,acc,m,r,cS,hm,h,ha=>by
  unfold oL at h;split at h
  ·simp at h
  ·rename_i c m1 he;obtain⟨av,az,aF⟩:=Nw _ _ _ _ _ _ he
   obtain ⟨g1,g2,g3,g4⟩:=XS v g y k (x+1) (acc++ [c]) m1 r cS az h (fun d hd=>by
    rcases List.mem_append.1 hd with hd|hd
    ·exact ha d hd
    ·rw[List.mem_singleton.1 hd];exact av)
   refine⟨g1,?_,g3,by omega⟩;rw[g2,hl];simp only[GC];omega
theorem XT(v:iA)(g:List eB):∀(k y:Nat) (acc:List eM) (m:Int) (r:List eM) (cS:Int),0≤m→q1 v g k y acc m=(some r,cS)→(∀c∈acc,pr (4^v.depth.toNat) c)→(∀c∈r,pr (4^v.depth.toNat) c)∧r.length=acc.length+k *v.w.toNat∧0≤cS∧cS≤m
 |0,y,acc,m,r,cS,hm,h,ha=>by simp only[q1,fS,mi] at h;obtain⟨rfl,rfl⟩:=h;exact⟨ha,by omega,hm,oJ _⟩
 |k+1,y,acc,m,r,cS,hm,h,ha=>by
  unfold q1 at h;split at h
  ·simp at h
  ·rename_i a m1 he;obtain⟨av,az,aF,bk⟩:=XS v _ y _ 0 acc m a m1 hm he ha;obtain⟨g1,g2,g3,g4⟩:=XT v g k (y+1) a m1 r cS aF h av;refine⟨g1,?_,g3,by omega⟩;rw[g2,az,RD];omega
variable{v:iA}
theorem XU{o:List dx}{r:List eM}(hm:0≤m)(h:sX o v m=(some r,cS)):(∀c∈r,pr (4^v.depth.toNat) c)∧r.length=v.h.toNat *v.w.toNat∧0≤cS∧cS≤m:=by obtain⟨av,az,aF,bk⟩:=XT v _ _ 0 [] m r cS hm h (fun c hc=>absurd hc (by simp));exact⟨av,by simpa using az,aF,bk⟩
abbrev jB:=Int×Int
def DY(t:jB)(c al:Int)(v:eM)(cells:Int):jB:=(B5 t c al v cells /(255 *cells),(B6 t c al v cells+255 *cells-1)/(255 *cells))
def ai3(aC aE fJ al:Int)(cells:Int)(v:eM)(i:Nat)(ts:List jB):List jB:=
 let a:=ts.set (3 *i) (DY (ts.getD (3 *i) (0,0)) aC al v cells);let b:=a.set (3 *i+1) (DY (a.getD (3 *i+1) (0,0)) aE al v cells)
 b.set (3 *i+2) (DY (b.getD (3 *i+2) (0,0)) fJ al v cells)
def layAll(aC aE fJ al:Int)(cells:Int):List eM→Nat→List jB→List jB
 |[],_,ts=>ts
 |v::l,i,ts=>layAll aC aE fJ al cells l (i+1) (ai3 aC aE fJ al cells v i ts)
def qw(bQ bU a7:Int):Nat→List jB
 |0=>[]
 |n+1=>qw bQ bU a7 n++[nw bQ,nw bU,nw a7]
def xo(ts:List jB):Prop:=∀t∈ts,q2 t=true
theorem XV(t:jB):q2 t=true↔0≤t.1∧t.1≤t.2∧t.2≤16711680:=by unfold q2;simp only[ix,iO]
theorem ai4(c:Int):q2 (nw c)=true:=by rw[XV];unfold nw;simp only;omega
theorem Nx{t al k:Int}(bB:0≤t∧t≤16711680)(hc:0≤c∧c≤255)(ha:0≤al∧al≤255)(ax:0≤k∧k≤cells):0≤um t c al k cells∧um t c al k cells≤16711680 *(255 *cells):=by
 unfold um;have aT:0≤al *k:=gW ha.1 ax.1;have av:al *k≤255 *cells:=by have az:al *k≤255 *k:=Ns ha.2 ax.1;have aF:255 *k≤255 *cells:=JJ ax.2 (by decide);omega
 generalize al *k=x at aT av⊢;generalize 255 *cells=y at av⊢;have bE:0≤t *(y-x):=gW bB.1 (by omega);have a2:t *(y-x)≤16711680 *(y-x):=Ns bB.2 (by omega);have a3:0≤65536 *c *x:=gW (by omega) aT;have a4:65536 *c *x≤16711680 *x:=Ns (by omega) aT;have a5:16711680 *(y-x)=16711680 *y-16711680 *x:=Int.mul_sub ..;omega
theorem ai5{t:jB}{al:Int}{v:eM}(bB:q2 t=true)(hc:0≤c∧c≤255)(ha:0≤al∧al≤255)(aS:0≤v.1∧v.1≤v.2∧v.2≤cells)(av:1≤cells):q2 (DY t c al v cells)=true:=by
 rw[XV] at bB⊢;have cE:=Nx (t:=t.1) (c:=c) (al:=al) (k:=v.1) (cells:=cells) ⟨bB.1,by omega⟩ hc ha ⟨aS.1,by omega⟩;have bo:=Nx (t:=t.2) (c:=c) (al:=al) (k:=v.1) (cells:=cells) ⟨by omega,by omega⟩ hc ha ⟨aS.1,by omega⟩;have fk:=Nx (t:=t.1) (c:=c) (al:=al) (k:=v.2) (cells:=cells) ⟨bB.1,by omega⟩ hc ha ⟨by omega,by omega⟩;have B9:=Nx (t:=t.2) (c:=c) (al:=al) (k:=v.2) (cells:=cells) ⟨by omega,by omega⟩ hc ha ⟨by omega,by omega⟩;have hd:0<255 *cells:=by omega
 have a1:0≤B5 t c al v cells∧B5 t c al v cells≤B6 t c al v cells∧B6 t c al v cells≤16711680 *(255 *cells):=by unfold B5 B6;omega
 obtain⟨a1,a6,ch⟩:=a1;unfold DY;simp only;generalize B5 t c al v cells=a at a1 a6⊢;generalize B6 t c al v cells=b at a6 ch⊢;generalize 255 *cells=y at hd ch⊢;refine⟨RE a1 (by omega),Int.ediv_le_ediv hd (by omega),?_⟩;have hJ:(b+y-1)/ y<16711681:=Int.ediv_lt_of_lt_mul hd (by omega);exact Int.lt_add_one_iff.1 hJ
theorem ai6{ts:List jB}(h:xo ts)(j:Nat){t:jB}(bB:q2 t=true):xo (ts.set j t):=fun x hx=>by
 rcases XK hx with hx|rfl
 ·exact h x hx
 ·exact bB
theorem XW{ts:List jB}(h:xo ts)(j:Nat):q2 (ts.getD j (0,0))=true:=by
 rw[B3];cases cr:ts[j]? with
 |none=>rfl
 |some t=>exact h t (GD cr)
theorem XX(bQ bU a7:Int):∀n,(qw bQ bU a7 n).length=3 *n
 |0=>rfl
 |n+1=>by unfold qw;rw[hl,XX bQ bU a7 n];simp;omega
theorem XY(bQ bU a7:Int):∀n,xo (qw bQ bU a7 n)
 |0=>fun t h=>absurd h (by simp[qw])
 |n+1=>fun t h=>by
  unfold qw at h;rcases List.mem_append.1 h with h|h
  ·exact XY bQ bU a7 n t h
  ·simp at h;rcases h with rfl|rfl|rfl<;>exact ai4 _
def Sub(q b:bO):Prop:=b.aD≤q.aD∧q.aD≤q.aG∧q.aG≤b.aG∧b.aC≤q.aC∧q.aC≤q.aE∧q.aE≤b.aE
theorem Sub.trans{a c:bO}(h:Sub a b)(g:Sub b c):Sub a c:=by unfold Sub at *;omega
theorem Sub.self(h:Sub q b):Sub q q:=by unfold Sub at *;omega
theorem ai7(h:Sub b b)(aH:q∈splitB b):Sub q b:=by
 unfold splitB at aH;simp only[vU,vV,uj] at aH;unfold Sub at *
 rcases aH with rfl|rfl|rfl|rfl<;>simp only<;>omega
theorem JN(a b:bO)(ay:Sub b b):sQ a b=true↔a.aG<a.aD∨a.aE<a.aC∨a.aG<b.aD∨b.aG<a.aD∨a.aE<b.aC∨b.aE<a.aC:=by unfold Sub at ay;unfold sQ rH;simp only[DS,iO];omega
theorem ai8{a:bO}(ay:Sub b b)(aH:Sub q b)(h:sQ a b=true):sQ a q=true:=by
 rw[JN a b ay] at h;rw[JN a q aH.self];unfold Sub at *
 omega
def vW(e:eB):Prop:=e.any=false→∀q,Sub q q→sQ e.b q=true→k2 q e.o.2=0
def sY(o:dx):Prop:=match sR o.2 with
 |none=>∀q,Sub q q→k2 q o.2=0
 |some b=>Ak o.2=false→∀q,Sub q q→sQ b q=true→k2 q o.2=0
abbrev GL(r:bO):Int→dx→Int:=fun k o=>nZ k (k2 r o.2) o.1
theorem XZ{k:Int}(h:0≤k∧k≤2)(a:Bool):nZ k 0 a=k:=by unfold nZ;rw[aR (by omega),a8 rfl]
theorem RS(f:eB→Bool)(r:bO):∀(g:List eB) (k:Int),0≤k∧k≤2→(∀e∈g,f e=false→k2 r e.o.2=0)→((g.filter f).map eB.o).foldl (GL r) k=(g.map eB.o).foldl (GL r) k
 |[],_,_,_=>rfl
 |e::g,k,ax,h=>by
  have az:=fun x hx=>h x (Af _ hx);rw[List.filter_cons];split
  ·rw[oH,oH,nW,nW];exact RS f r g _ (Nv _ _ _ ax) az
  ·rename_i hf;rw[oH,nW];show _=List.foldl (GL r) (nZ k (k2 r e.o.2) e.o.1) _;rw[h e (RF ..) (by simpa using hf),XZ ax];exact RS f r g k ax az
def Alike(g g':List eB)(b:bO):Prop:=∀q,Sub q b→kJ (g.map eB.o) q=kJ (g'.map eB.o) q
theorem X0(hs:∀e∈g,vW e)(ay:Sub b b)(aH:Sub q b):kJ ((fj g b).map eB.o) q=kJ (g.map eB.o) q:=by unfold kJ fj;refine RS _ q g 0 (by decide) fun e he hf=>?_;simp only[Bool.or_eq_false_iff,Bool.not_eq_false'] at hf;exact hs e he hf.1 q aH.self (ai8 ay aH hf.2)
theorem Alike.RT{g':List eB}(hs:∀e∈g,vW e)(pt:∀e∈g',vW e)(h:Alike g g' b)(aH:Sub q b):Alike (fj g q) (fj g' q) q:=fun r hr=>by rw[X0 hs aH.self hr,X0 pt aH.self hr];exact h r (hr.trans aH)
theorem GM(hs:∀e∈g,vW e)(b:bO):∀e∈fj g b,vW e:=fun e he=>hs e (List.mem_filter.1 he).1
theorem X1:∀(d:Nat) (g g':List eB) (b:bO) (m:Int),(∀e∈g,vW e)→(∀e∈g',vW e)→Alike g g' b→Sub b b→n1 d g b m=n1 d g' b m
 |0,g,g',b,m,_,_,h,ay=>by rw[B8,B8,h b ay]
 |d+1,g,g',b,m,hs,pt,h,ay=>by
  have key:∀(l:List bO),(∀q∈l,Sub q b)→∀s,l.foldl (oM d g) s=l.foldl (oM d g') s:=by
   intro l
   induction l with
   |nil=>intro _ s;rfl
   |cons q l cT=>
    intro aA s;have aH:=aA q (RF ..)
    have e:oM d g s q=oM d g' s q:=by
     obtain⟨o,m⟩:=s;cases o with
     |none=>rfl
     |some c=>simp only[oM,X1 d (fj g q) (fj g' q) q m (GM hs q) (GM pt q) (h.RT hs pt aH) aH.self]
    rw[nW,nW,e];exact cT (fun r hr=>aA r (Af _ hr)) _
  rw[B7,B7,h b ay,key _ (fun q aH=>ai7 ay aH)]
theorem X2(hp:0<v.ht)(x y:Nat)(hx:(x:Int)<v.w):Sub (mR v x y) (sW v y):=by
 have aT:(0:Int)≤(x:Int) *v.ht:=gW (by omega) (by omega);have e:((v.w.toNat-1:Nat):Int)=v.w-1:=by omega
 have av:(x:Int) *v.ht≤(v.w-1) *v.ht:=Ns (by omega) (by omega);unfold Sub sW mR;simp only;rw[e];simp only[Int.ofNat_zero,Int.zero_mul];omega
theorem X3{v:iA}(hp:0<v.ht){g g':List eB}(hs:∀e∈g,vW e)(pt:∀e∈g',vW e){y:Nat}(h:Alike g g' (sW v y)):∀(k x:Nat) (acc:List eM) (m:Int),((x+k:Nat):Int)≤v.w→oL v g y k x acc m=oL v g' y k x acc m
 |0,_,_,_,_=>rfl
 |k+1,x,acc,m,hx=>by
  have aH:=X2 hp x y (by omega:(x:Int)<v.w);unfold oL;rw[X1 _ _ _ _ m (GM hs _) (GM pt _) (h.RT hs pt aH) aH.self];split
  ·rfl
  ·exact X3 hp hs pt h k (x+1) _ _ (by omega)
theorem X4{v:iA}(hp:0<v.ht)(hw:0<v.w){g g':List eB}(hs:∀e∈g,vW e)(pt:∀e∈g',vW e)(h:∀q,Sub q q→kJ (g.map eB.o) q=kJ (g'.map eB.o) q):∀(k y:Nat) (acc:List eM) (m:Int),q1 v g k y acc m=q1 v g' k y acc m
 |0,_,_,_=>rfl
 |k+1,y,acc,m=>by
  have ay:Sub (sW v y) (sW v y):=by
   have:=X2 hp 0 y (by omega:((0:Nat):Int)<v.w);unfold Sub at *
   omega
  have hA:Alike (fj g (sW v y)) (fj g' (sW v y)) (sW v y):=Alike.RT hs pt (fun q aH=>h q aH.self) ay;unfold q1;rw[X3 hp (GM hs _) (GM pt _) hA _ 0 acc m (by omega)];split
  ·rfl
  ·exact X4 hp hw hs pt h k (y+1) _ _
theorem X5{l:List dx}(h:∀o∈l,sY o):∀e∈jM l,vW e:=by
 intro e he;unfold jM at he;obtain⟨o,bl,hm⟩:=List.mem_filterMap.1 he;have hs:=h o bl;unfold sY at hs;cases ay:sR o.2 with
 |none=>rw[ay] at hm;cases hm
 |some b=>
  rw[ay] at hm hs;injection hm with hm;subst hm;exact hs
theorem X6{l:List dx}(h:∀o∈l,sY o)(r:bO)(hr:Sub r r):kJ ((jM l).map eB.o) r=kJ l r:=by
 unfold kJ
 have key:∀(l:List dx),(∀o∈l,sY o)→∀k:Int,0≤k∧k≤2→((jM l).map eB.o).foldl (GL r) k=l.foldl (GL r) k:=by
  intro l
  induction l with
  |nil=>intro _ k _;rfl
  |cons o l cT=>
   intro h k ax;have hs:=h o (RF ..);have az:=fun x hx=>h x (Af o hx);unfold sY at hs;rw[nW];cases ay:sR o.2 with
   |none=>
    rw[ay] at hs;have e:jM (o::l)=jM l:=(by unfold jM;rw[List.filterMap_cons,ay];rfl);rw[e];show _=List.foldl (GL r) (nZ k (k2 r o.2) o.1) _;rw[hs r hr,XZ ax];exact cT az k ax
   |some b=>
    have e:jM (o::l)=⟨o,b,Ak o.2⟩::jM l:=(by unfold jM;rw[List.filterMap_cons,ay];rfl);rw[e,oH,nW];exact cT az _ (Nv _ _ _ ax)
 exact key l h 0 (by decide)
theorem ai9{l pv:List dx}(hp:0<v.ht)(hw:0<v.w)(hs:∀o∈l,sY o)(pt:∀o∈pv,sY o)(h:∀q,Sub q q→kJ l q=kJ pv q)(m:Int):sX l v m=sX pv v m:=
 X4 hp hw (X5 hs) (X5 pt) (fun q aH=>by rw[X6 hs q aH,X6 pt q aH];exact h q aH) _ _ _ _
def cost:Nat→Int
 |0=>1
 |d+1=>4 *cost d+1
theorem JO:∀d,1≤cost d
 |0=>by decide
 |d+1=>by unfold cost;have:=JO d;omega
theorem X7:∀(d:Nat) (g:List eB) (b:bO) (m:Int),cost d≤m→∃c cS,n1 d g b m=(some c,cS)∧m-cost d≤cS
 |0,g,b,m,h=>by unfold cost at h;rw[B8,aR (by omega)];exact⟨_,_,rfl,by unfold cost;omega⟩
 |d+1,g,b,m,h=>by
  have hp:=JO d;have az:4 *cost d+1≤m:=h;have e:cost (d+1)=4 *cost d+1:=rfl;rw[B7,aR (by omega),e];split
  ·exact⟨_,_,rfl,by omega⟩
  ·split
   ·exact⟨_,_,rfl,by omega⟩
   ·have key:∀(l:List bO) (c:eM) (m:Int),(l.length:Int) *cost d≤m→∃c' cS,l.foldl (oM d g) (some c,m)=(some c',cS)∧m -(l.length:Int) *cost d≤cS:=by
     intro l
     induction l with
     |nil=>intro c m _;exact⟨c,m,rfl,by simp⟩
     |cons q l cT=>
      intro c m hm;have a6:((q::l).length:Int) *cost d=(l.length:Int) *cost d+cost d:=(by rw[eP];push_cast;grind);rw[a6] at hm⊢;have aT:0≤(l.length:Int) *cost d:=gW (by omega) (by omega);obtain⟨x,m1,av,aF⟩:=X7 d (fj g q) q m (by omega);rw[nW,RR av];obtain⟨c',cS,bk,b9⟩:=cT (c.1+x.1,c.2+x.2) m1 (by omega);exact⟨c',cS,bk,by omega⟩
    obtain⟨c',cS,bk,b9⟩:=key (splitB b) (0,0) (m-1) (by show (4:Int) *cost d≤_;omega);exact⟨c',cS,bk,by have:((splitB b).length:Int) *cost d=4 *cost d:=rfl;omega⟩
theorem X8(v:iA)(g:List eB)(y:Nat):∀(k x:Nat) (acc:List eM) (m:Int),(k:Int) *cost v.depth.toNat≤m→∃r cS,oL v g y k x acc m=(some r,cS)∧m -(k:Int) *cost v.depth.toNat≤cS
 |0,x,acc,m,h=>⟨acc,m,rfl,by simp⟩
 |k+1,x,acc,m,h=>by have e:((k+1:Nat):Int) *cost v.depth.toNat=(k:Int) *cost v.depth.toNat+cost v.depth.toNat:=(by push_cast;grind);rw[e] at h⊢;have aT:0≤(k:Int) *cost v.depth.toNat:=gW (by omega) (by have:=JO v.depth.toNat;omega);obtain⟨c,m1,av,az⟩:=X7 v.depth.toNat (fj g (mR v x y)) (mR v x y) m (by omega);unfold oL;rw[av];obtain⟨r,cS,aF,bk⟩:=X8 v g y k (x+1) (acc++[c]) m1 (by omega);exact⟨r,cS,aF,by omega⟩
theorem X9(v:iA)(g:List eB):∀(k y:Nat) (acc:List eM) (m:Int),(k:Int) *((v.w.toNat:Int) *cost v.depth.toNat)≤m→∃r cS,q1 v g k y acc m=(some r,cS)∧m -(k:Int) *((v.w.toNat:Int) *cost v.depth.toNat)≤cS
 |0,y,acc,m,h=>⟨acc,m,rfl,by simp⟩
 |k+1,y,acc,m,h=>by obtain⟨K,hK⟩:=ar ((v.w.toNat:Int) *cost v.depth.toNat);have RU:0≤K:=(by rw[←hK];exact gW (by omega) (by have:=JO v.depth.toNat;omega));rw[hK] at h⊢;have e:((k+1:Nat):Int) *K=(k:Int) *K+K:=(by push_cast;grind);rw[e] at h⊢;have aT:0≤(k:Int) *K:=gW (by omega) RU;obtain⟨fM,m1,av,az⟩:=X8 v (fj g (sW v y)) y v.w.toNat 0 acc m (by rw[hK];omega);rw[hK] at az;unfold q1;rw[av];obtain⟨r,cS,aF,bk⟩:=X9 v g k (y+1) fM m1 (by rw[hK];omega);rw[hK] at bk;exact⟨r,cS,aF,by omega⟩
theorem aja(l:List dx)(v:iA)(m:Int)(h:(v.h.toNat:Int) *((v.w.toNat:Int) *cost v.depth.toNat)≤m):∃r cS,sX l v m=(some r,cS):=by obtain⟨r,cS,av,_⟩:=X9 v (jM l) v.h.toNat 0 [] m h;exact⟨r,cS,av⟩
def lX(aD aC aG aE:Int):List bK:=[(aD,aC),(aG,aC),(aG,aE),(aD,aE)]
theorem GN{d x:Int}(hd:0≤d)(hx:x≤0):d *x≤0:=Int.mul_nonpos_of_nonneg_of_nonpos hd hx
theorem Ny{d x:Int}(hd:0≤d)(hx:0≤x):0≤d *x:=gW hd hx
variable{e a p:bK}
theorem X'(ay:Sub b b){q:bK}(h:p.2=q.2):qt b p q=true↔min p.1 q.1≤b.aG∧b.aD≤max p.1 q.1∧b.aC≤p.2∧p.2≤b.aE:=by
 obtain⟨cw,ct⟩:=p;obtain⟨en,eo⟩:=q;obtain rfl:ct=eo:=h;unfold qt Sub at *
 simp only;split
 ·simp only[pq,false_iff];omega
 ·rename_i h;have a1:∀c:bK,eH (cw,ct) (en,ct) c=(en-cw) *(c.2-ct):=(by intro c;unfold eH;simp only;grind);simp only[oI,GF,RG,a1,RH,ix,RI,RJ,DT]
  have k:((en-cw) *(b.aC-ct)≤0∨(en-cw) *(b.aE-ct)≤0)∧(0≤(en-cw) *(b.aC-ct)∨0≤(en-cw) *(b.aE-ct)):=by
   by_cases hd:0≤en-cw
   ·exact⟨.inl (GN hd (by omega)),.inr (Ny hd (by omega))⟩
   ·have av:=GN (d:=cw-en) (x:=b.aC-ct) (by omega) (by omega);have az:=Ny (d:=cw-en) (x:=b.aE-ct) (by omega) (by omega);have ch:∀x,(cw-en) *x= -((en-cw) *x):=(by intro x;grind);rw[ch] at av az;omega
  omega
theorem Ya(ay:Sub b b){q:bK}(h:p.1=q.1):qt b p q=true↔min p.2 q.2≤b.aE∧b.aC≤max p.2 q.2∧b.aD≤p.1∧p.1≤b.aG:=by
 obtain⟨cw,ct⟩:=p;obtain⟨en,eo⟩:=q;obtain rfl:cw=en:=h;unfold qt Sub at *
 simp only;split
 ·simp only[pq,false_iff];omega
 ·rename_i h;have a1:∀c:bK,eH (cw,ct) (cw,eo) c= -((eo-ct) *(c.1-cw)):=(by intro c;unfold eH;simp only;grind);simp only[oI,GF,RG,a1,RH,ix,RI,RJ,DT]
  have k:((eo-ct) *(b.aD-cw)≤0∨(eo-ct) *(b.aG-cw)≤0)∧(0≤(eo-ct) *(b.aD-cw)∨0≤(eo-ct) *(b.aG-cw)):=by
   by_cases hd:0≤eo-ct
   ·exact⟨.inl (GN hd (by omega)),.inr (Ny hd (by omega))⟩
   ·have av:=GN (d:=ct-eo) (x:=b.aD-cw) (by omega) (by omega);have az:=Ny (d:=ct-eo) (x:=b.aG-cw) (by omega) (by omega);have ch:∀x,(ct-eo) *x= -((eo-ct) *x):=(by intro x;grind);rw[ch] at av az;omega
  omega
def Al(b:bO)(aD aC aG aE:Int):Prop:=aD≤b.aG∧b.aD≤aG∧aC≤b.aE∧b.aC≤aE∧(b.aC≤aC∨aE≤b.aE∨b.aD≤aD∨aG≤b.aG)
theorem Yb(ay:Sub b b)(hx:aD<aG)(hy:aC<aE)(l:List (List bK)):Ae b (lX aD aC aG aE::l)=true↔Al b aD aC aG aE∨Ae b l=true:=by
 have e:Ae b (lX aD aC aG aE::l)=((qt b (aD,aC) (aG,aC)||(qt b (aG,aC) (aG,aE)||(qt b (aG,aE) (aD,aE)||(qt b (aD,aE) (aD,aC)|| false))))|| Ae b l):=rfl;rw[e];simp only[DS,Bool.or_false];rw[X' ay (p:=(aD,aC)) (q:=(aG,aC)) rfl,Ya ay (p:=(aG,aC)) (q:=(aG,aE)) rfl,X' ay (p:=(aG,aE)) (q:=(aD,aE)) rfl,Ya ay (p:=(aD,aE)) (q:=(aD,aC)) rfl];unfold Al Sub at *
 simp only;constructor
 ·rintro (h|h)
  ·left;omega
  ·exact .inr h
 ·rintro (h|h)
  ·left;omega
  ·exact .inr h
theorem Yc(h:a.2=e.2):vL p a e=false:=by unfold vL;rw[h,a8 rfl]
theorem ajb(h:a.1=e.1)(hy:a.2<e.2):vL p a e=decide (a.2≤p.2∧p.2<e.2∧p.1<a.1):=by
 obtain⟨aW,aY⟩:=a;obtain⟨ex,bI⟩:=e;obtain⟨cw,ct⟩:=p;obtain rfl:aW=ex:=h;simp only at hy⊢;have a1:eH (aW,aY) (aW,bI) (cw,ct)=(bI-aY) *(aW-cw):=by unfold eH;simp only;grind
 have k:0<(bI-aY) *(aW-cw)↔cw<aW:=by
  constructor
  ·intro h;rcases Int.lt_or_le cw aW with g|g
   ·exact g
   ·have:=GN (d:=bI-aY) (x:=aW-cw) (by omega) (by omega);omega
  ·intro h;exact Int.mul_pos (by omega) (by omega)
 unfold vL;simp only[a1];split
 ·rename_i h;rw[yY] at h;rw[eq_comm,DT];omega
 ·rename_i h;rw[yY] at h;rw[yY,k];omega
theorem ajc(h:a.1=e.1)(hy:e.2<a.2):vL p a e=decide (e.2≤p.2∧p.2<a.2∧p.1<a.1):=by
 obtain⟨aW,aY⟩:=a;obtain⟨ex,bI⟩:=e;obtain⟨cw,ct⟩:=p;obtain rfl:aW=ex:=h;simp only at hy⊢;have a1:eH (aW,aY) (aW,bI) (cw,ct)= -((aY-bI) *(aW-cw)):=by unfold eH;simp only;grind
 have k:-((aY-bI) *(aW-cw))<0↔cw<aW:=by
  constructor
  ·intro h;rcases Int.lt_or_le cw aW with g|g
   ·exact g
   ·have:=GN (d:=aY-bI) (x:=aW-cw) (by omega) (by omega);omega
  ·intro h;have:=Int.mul_pos (a:=aY-bI) (b:=aW-cw) (by omega) (by omega);omega
 unfold vL;simp only[a1];split
 ·rename_i h;rw[yY] at h;rw[eq_comm,DT];omega
 ·rename_i h;rw[yY] at h;rw[aR (by omega),yY,k];omega
def xp(p:bK)(aD aC aG aE:Int):Prop:=aD≤p.1∧p.1<aG∧aC≤p.2∧p.2<aE
instance(p:bK)(aD aC aG aE:Int):Decidable (xp p aD aC aG aE):=inferInstanceAs (Decidable (_∧_))
theorem ajd(p:bK)(hx:aD<aG)(hy:aC<aE)(i:Bool):(jy (lX aD aC aG aE)).foldl (fun i e=>if vL p e.1 e.2=true then !i else i) i=xor i (decide (xp p aD aC aG aE)):=by
 have e:jy (lX aD aC aG aE)=[((aD,aC),(aG,aC)),((aG,aC),(aG,aE)),((aG,aE),(aD,aE)),((aD,aE),(aD,aC))]:=rfl;rw[e];simp only[nW,GB];rw[Yc (p:=p) (a:=(aD,aC)) (e:=(aG,aC)) rfl,ajb (p:=p) (a:=(aG,aC)) (e:=(aG,aE)) rfl hy,Yc (p:=p) (a:=(aG,aE)) (e:=(aD,aE)) rfl,ajc (p:=p) (a:=(aD,aE)) (e:=(aD,aC)) rfl hy];simp only[iO,pq,yZ];by_cases av:aC≤p.2∧p.2<aE∧p.1<aG
 ·rw[a8 av];by_cases az:aC≤p.2∧p.2<aE∧p.1<aD
  ·rw[a8 az,eT (by unfold xp;omega)];cases i<;>rfl
  ·rw[aR az,e' (by unfold xp;omega)];cases i<;>rfl
 ·rw[aR av,aR (by omega),eT (by unfold xp;omega)];cases i<;>rfl
theorem aje(p:bK)(hx:aD<aG)(hy:aC<aE):JG p [lX aD aC aG aE]=decide (xp p aD aC aG aE):=by unfold JG;rw[nW,GB,ajd p hx hy];simp
theorem ajf(b:bO):¬Ae b []=true:=by simp[Ae]
theorem ajg(ay:Sub b b)(hx:aD<aG)(hy:aC<aE):(Al b aD aC aG aE∧BY b [lX aD aC aG aE]=1)∨(¬Al b aD aC aG aE∧xp (b.aD,b.aC) aD aC aG aE∧BY b [lX aD aC aG aE]=2)∨(¬Al b aD aC aG aE∧¬xp (b.aD,b.aC) aD aC aG aE∧BY b [lX aD aC aG aE]=0):=by
 unfold BY;rw[aje _ hx hy];by_cases h:Al b aD aC aG aE
 ·left;exact⟨h,a8 ((Yb ay hx hy []).2 (.inl h))⟩
 ·rw[aR (fun g=>by rcases (Yb ay hx hy []).1 g with g|g;exact h g;exact ajf _ g)];by_cases az:xp (b.aD,b.aC) aD aC aG aE
  ·exact .inr (.inl ⟨h,az,a8 (e' az)⟩)
  ·exact .inr (.inr ⟨h,az,aR (by simp[az])⟩)
theorem RV{l:List (List bK)}(h:vK l=true):okV (gX (j8 l))=true:=by unfold okV bc.one gX j8;simp[hI,k0,gu,z2,bc.len,ho,h]
theorem ajh{l:List (List bK)}(h:vK l=true)(q:bO):k2 q (gX (j8 l))=BY q l:=by unfold k2;rw[a8 (RV h)];rfl
theorem aji{l:List (List bK)}(h:vK l=true):sR (gX (j8 l))=l.foldl (fun o c=>c.foldl (fun o p=>nu o (ml p p 0)) o) none:=by unfold sR;rw[a8 (RV h)];rfl
theorem DZ{a b d:Int}(hp:-536870912≤p.1∧p.1≤536870912∧-536870912≤p.2∧p.2≤536870912):nu (some ⟨a,b,c,d⟩) (ml p p 0)=some ⟨min a p.1,min b p.2,max c p.1,max d p.2⟩:=by unfold nu ml;simp only[mi,bO.mk.injEq];omega
theorem ajj(hp:-536870912≤p.1∧p.1≤536870912∧-536870912≤p.2∧p.2≤536870912):nu none (ml p p 0)=some ⟨p.1,p.2,p.1,p.2⟩:=by unfold nu ml;simp only[mi,bO.mk.injEq];omega
def ka(aD aC aG aE:Int):Prop:=-536870912≤aD∧aD<aG∧aG≤536870912∧-536870912≤aC∧aC<aE∧aE≤536870912
theorem Yd(p:bK):fZ p=true↔-536870912≤p.1∧p.1≤536870912∧-536870912≤p.2∧p.2≤536870912:=by unfold fZ;simp only[ix,iO]
theorem Nz(h:ka aD aC aG aE):vK [lX aD aC aG aE]=true:=by unfold ka at h;unfold vK lX;simp[Yd];omega
theorem ajk(h:ka aD aC aG aE)(o:Option bO)(bl:o=none∨∃a b c d,o=some ⟨a,b,c,d⟩∧a≤aD∧b≤aC∧aG≤c∧aE≤d):(lX aD aC aG aE).foldl (fun o p=>nu o (ml p p 0)) o=match o with|none=>some ⟨aD,aC,aG,aE⟩|some b=>some b:=by
 unfold ka at h;unfold lX;simp only[nW,GB];rcases bl with rfl|⟨a,b,c,d,rfl,av,az,aF,bk⟩
 ·rw[ajj (by simp only;omega),DZ (by simp only;omega),DZ (by simp only;omega),DZ (by simp only;omega)];simp only[mi,bO.mk.injEq];omega
 ·rw[DZ (by simp only;omega),DZ (by simp only;omega),DZ (by simp only;omega),DZ (by simp only;omega)];simp only[mi,bO.mk.injEq];omega
theorem RW(h:ka aD aC aG aE):sR (gX (j8 [lX aD aC aG aE]))=some ⟨aD,aC,aG,aE⟩:=by rw[aji (Nz h)];simp only[nW,GB];rw[ajk h none (.inl rfl)]
theorem ka.off(h:ka aD aC aG aE)(aH:Sub q q)(ha:sQ ⟨aD,aC,aG,aE⟩ q=true):¬Al q aD aC aG aE∧¬xp (q.aD,q.aC) aD aC aG aE:=by
 rw[JN _ _ aH] at ha;unfold ka Al xp Sub at *
 simp only at ha⊢;omega
theorem ajl(d:Bool)(h:ka aD aC aG aE):sY (d,gX (j8 [lX aD aC aG aE])):=by
 unfold sY;simp only;rw[RW h];intro _ q aH ha;rw[ajh (Nz h)];obtain⟨av,az⟩:=h.off aH ha;rcases ajg aH h.2.1 h.2.2.2.2.1 with g|g|g
 ·exact absurd g.1 av
 ·exact absurd g.2.1 az
 ·exact g.2.2
instance(b:bO)(aD aC aG aE:Int):Decidable (Al b aD aC aG aE):=inferInstanceAs (Decidable (_∧_))
end dH
