/- Lemmas. -/
import Derived.Test.YtfldplmgkeiimaaGreatDoorR4
import Derived.Laws.ResultCell
set_option linter.all false
set_option maxHeartbeats 3200000
namespace Go.Proofs.YtfldplmgkeiimaaGreatDoor
abbrev zx:=@Array.getElem?_setIfInBounds_ne
abbrev IE:=@Nat.add_zero
abbrev IF:=@Array.getElem?_setIfInBounds_self_of_lt
abbrev yp:=@Array.size_setIfInBounds
abbrev FJ:=@List.ext_getElem?
abbrev Xl:=@List.getElem?_eq_none
abbrev Rf:=@Array.ext_getElem?
abbrev MV:=@Sem.run_pure
abbrev uZ:=@Result.andThen_ok
abbrev tK:=@results_cell_row
namespace ct
open ig
open wu (x')
structure e2 where
 a:Nat
 ext:Bool
 first:Bool
 t:List UInt8
deriving DecidableEq
structure i6 where
 words:List e2
 text:List UInt8
 a:Nat
 group:Bool
 inner:Nat
deriving DecidableEq
def yq:i6:=⟨[],[],0,false,0⟩
def IG(s:i6):Except Nat i6:=
 if s.text=[] then .error 2 else .ok {s with words:=s.words++[⟨s.a,s.group,decide (s.inner=0),s.text⟩],inner:=(if s.group=true then s.inner+1 else s.inner),text:=[]}
def C8(s:i6)(c:UInt8):Except Nat i6:=if s.text.length=10000 then .error 6 else .ok {s with text:=s.text++[c]}
def wU(s:i6)(c:UInt8)(i:Nat):Except Nat i6:=
 if c=13∨c=10 then .ok s
 else if c.toNat<32∨126<c.toNat then .error 2
 else if c=42 then IG s
 else if c=37 then (if s.text≠[]∨(s.group=true∧s.inner=0) then .error 2 else .ok {s with group:=!s.group,inner:=0})
 else if s.text=[] then (if s.words.length=20000 then .error 6 else C8 {s with a:=i} c)
 else C8 s c
def nc:au→Nat→i6→Except (Nat×Nat) i6
 |[],_,s=>.ok s
 |c::r,i,s=>match wU s c i with
  |.error e=>.error (i,e)
  |.ok s'=>nc r (i+1) s'
def yr(s:au):List e2×Nat×Nat:=
 if 1000000<s.length then ([],0,6) else match nc s 0 yq with
  |.error (i,e)=>([],i,e)
  |.ok st=>if st.text≠[]∨st.group=true then ([],s.length,2) else (st.words,0,0)
structure eC where
 k:Int
 n:Int
 t:List UInt8
 args:List (List (Int×Int))
deriving DecidableEq
def cu:eC:=⟨0,0,[],[]⟩
def u'(s:au):Option (List UInt8×List UInt8):=if bn s=0∨s.headD 0=48 then none else some (s.take (bn s),s.drop (bn s))
def IH(s:au):Except Nat eC:=match u' s with
 |none=>.error 3
 |some (d,r)=>if 2<d.length∨r.headD 0≠61 then .error 3 else match x' (r.drop 1) with
  |(l,_,e)=>if e≠0 then .error e else .ok ⟨2,val d,[],[l]⟩
def qu(d:au):Int:=if d=[49] then 1 else if d=[52] then 4 else if d=[55] then 7 else if d=[50,48] then 20 else if d=[50,49] then 21 else 0
def eE(c:UInt8)(s:au):List UInt8×List UInt8×Bool:=
 if (s.takeWhile (· !=c)).length<s.length then (s.takeWhile (· !=c),s.drop ((s.takeWhile (· !=c)).length+1),true) else (s,[],false)
def oX(n:Int)(k:Nat):Bool:=
 if n=1 then decide (k=4)|| decide (k=5) else if n=20 then decide (k=7) else if n=21∨n=7 then decide (k=6) else if n=4 then decide (k%2=1)&&(decide (7≤k)&&decide (k≤1100)) else false
def ys:Nat→au→List (List (Int×Int))→Except Nat (List (List (Int×Int)))
 |0,_,acc=>.ok acc
 |f+1,s,acc=>if acc.length=1100 then .error 6 else match x' (eE 44 s).1 with
  |(l,_,e)=>if e≠0 then .error e else if (eE 44 s).2.2=true then ys f (eE 44 s).2.1 (acc++[l]) else .ok (acc++[l])
def va(s:au):Except Nat eC:=match u' s with
 |none=>.error 3
 |some (d,r)=>if r.headD 0≠44 then .error 3 else if qu d=0 then .error 8 else match ys (r.length+1) (r.drop 1) [] with
  |.error e=>.error e
  |.ok l=>if oX (qu d) l.length=true then .ok ⟨3,qu d,[],l⟩ else .error 3
def zy(s:au):Except Nat eC:=
 if s=[48] then .ok {cu with k:=1} else if s.take 2=[48,32] then .ok {cu with k:=1,t:=s.drop 2} else if s.headD 0=36 then IH (s.drop 1) else va s
def zz:List (List UInt8)→Nat→List eC→Except (Nat×Nat) (List eC)
 |[],_,acc=>.ok acc
 |s::l,i,acc=>match zy s with
  |.error e=>.error (i,e)
  |.ok b=>zz l (i+1) (acc++[b])
def Bg(l:List (List UInt8)):List eC×Nat×Nat:=if 500<l.length then ([],0,6) else match zz l 0 [] with
 |.error (i,e)=>([],i,e)
 |.ok b=>(b,0,0)
structure C where
 k:Int
 n:Int
 m:Int
 on:Bool
 t:List UInt8
 x:List UInt8
 y:List UInt8
 i:List UInt8
 j:List UInt8
 bX:List Int
 blocks:List eC
deriving DecidableEq
def aQ:C:=⟨0,0,0,false,[],[],[],[],[],[],[]⟩
def cI(k:Int):C:={aQ with k:=k}
def C9(t:au):Option Nat:=if t.length<1∨4<t.length∨bn t≠t.length then none else some (val t)
def vb(t:au):Option Nat:=if t.length<2∨t.headD 0=48 then none else C9 t
def MW(c:UInt8):Bool:=(decide (97≤c.toNat)&&decide (c.toNat≤122))||(decide (65≤c.toNat)&&decide (c.toNat≤90))|| c==95 || c==46 || c==36
def Rh(c:UInt8):Bool:=fi c || c==45
def sq(t:au):Bool:=decide (1≤t.length)&&(decide (t.length≤100)&&(MW (t.headD 0)&&(t.drop 1).all fun c=>MW c || Rh c))
def yt(r:au):Nat:=if r≠[]∧(r.headD 0=43∨r.headD 0=45) then 1 else 0
def oc(t:au)(c:UInt8):List UInt8×List UInt8:=
 if t≠ []∧t.headD 0=c then (
  if bn ((t.drop 1).drop (yt (t.drop 1)))<1∨12<bn ((t.drop 1).drop (yt (t.drop 1))) then ([],t)
  else ((t.drop 1).take (yt (t.drop 1)+bn ((t.drop 1).drop (yt (t.drop 1)))),(t.drop 1).drop (yt (t.drop 1)+bn ((t.drop 1).drop (yt (t.drop 1))))))
 else ([],t)
def yu(t:au):Int:=if t=[68,48,49] then 1 else if t=[68,48,50] then 2 else if t=[68,48,51] then 3 else 0
def uY(t:au):Option C:=
 let x:=oc t 88;let y:=oc x.2 89;let i:=oc y.2 73;let j:=oc i.2 74
 if yu j.2=0 then none else some {cI 7 with n:=yu j.2,x:=x.1,y:=y.1,i:=i.1,j:=j.1}
def ri(t:au)(cs:List C):Except Nat (List C):=
 match (if t≠[]∧t.headD 0=68∧cs=[] then vb (t.drop 1) else none) with
 |some n=>.ok [{cI 6 with n:=n}]
 |none=>match uY t with
  |none=>.error 3
  |some c=>.ok (cs++[c])
def tL(t:au)(n:Int):Except Nat (List C):=if t.drop 3=[] then .ok [{cI 2 with n:=n}] else ri (t.drop 3) [{cI 2 with n:=n}]
def Bh(t:au):Except Nat (List C):=
 if t=[71,51,54] then .ok [{cI 3 with on:=true}]
 else if t=[71,51,55] then .ok [cI 3]
 else if t=[71,55,52] then .error 8
 else if t=[71,55,53] then .ok [cI 4]
 else if t=[77,48,50] then .ok [cI 5]
 else if t.take 3=[71,48,52] then .ok [{cI 1 with t:=t.drop 3}]
 else if t.take 3=[71,48,49] then tL t 1
 else if t.take 3=[71,48,50] then tL t 2
 else if t.take 3=[71,48,51] then tL t 3
 else ri t []
def FK:List (List UInt8×C):=
 [([77,79,77,77],{cI 9 with n:=1}),([77,79,73,78],{cI 9 with n:=2}),([65,66],cI 12),([83,82],cI 14),([76,80,68],{cI 15 with on:=true}),([76,80,67],cI 15),([76,77,78],cI 16),([76,77,88],{cI 16 with n:=1}),([76,77,89],{cI 16 with n:=2}),([76,77,88,89],{cI 16 with n:=3})]
def MX(t:au):Option C:=
 if t.length≠8∨(t.headD 0≠76∧t.headD 0≠84)∨(t.drop 1).take 2≠[65,88]∨bn (t.drop 3)≠2∨(t.drop 5).headD 0≠89∨t.drop 6≠(t.drop 3).take 2 then none
 else some {cI 8 with on:=decide (t.headD 0=84),n:=(((t.drop 3).headD 0).toNat:Int)-48,m:=(((t.drop 4).headD 0).toNat:Int)-48}
def Bi:Nat→au→List Int→Option (List Int)
 |0,_,acc=>some acc
 |f+1,s,acc=>match dec (eE 88 s).1 with
  |none=>none
  |some v=>if (eE 88 s).2.2=true then Bi f (eE 88 s).2.1 (acc++[v]) else some (acc++[v])
def oY(t:au):Option C:=
 if t.headD 0≠68 then none else match MY (t.drop 1) with
  |none=>none
  |some (n,r)=>if sq (eE 44 r).1=false then none else if (eE 44 r).2.2=false then some {cI 10 with n:=n,t:=(eE 44 r).1} else
   (match Bi (r.length+1) (eE 44 r).2.1 [] with
    |none=>none
    |some l=>some {cI 10 with n:=n,t:=(eE 44 r).1,bX:=l})
where MY (r:au):Option (Nat×List UInt8):=match vb (r.take (bn r)) with
 |none=>none
 |some n=>some (n,r.drop (bn r))
def MZ(t:au):Option C:=if t.headD 0≠68 then none else match vb (t.drop 1) with
 |none=>none
 |some n=>some {cI 11 with n:=n}
def stepG(t:au):Option C:=
 if t.headD 0≠88 then none else
 match C9 (eE 89 (t.drop 1)).1,C9 (eE 73 (eE 89 (t.drop 1)).2.1).1,dec (eE 74 (eE 73 (eE 89 (t.drop 1)).2.1).2.1).1,dec (eE 74 (eE 73 (eE 89 (t.drop 1)).2.1).2.1).2.1 with
 |some n,some m,some x,some y=>some {cI 13 with n:=n,m:=m,bX:=[x,y]}
 |_,_,_,_=>none
def Xm(t:au):Option C:=match dec t with
 |none=>none
 |some v=>some {cI 17 with bX:=[v]}
def M0(t:au):Option C:=
 if t.take 2=[70,83] then MX (t.drop 2) else if t.take 2=[65,68] then oY (t.drop 2) else if t.take 2=[65,66] then MZ (t.drop 2) else if t.take 2=[83,82] then stepG (t.drop 2) else if t.take 2=[76,82] then Xm (t.drop 2)
 else if t.take 2=[84,70]∨t.take 2=[84,65]∨t.take 2=[84,79]∨t.take 2=[84,68] then some {cI 18 with t:=t} else none
def yv(t:au):Except Nat C:=
 if t.take 2=[76,83] then .error 8 else match FK.lookup t with
  |some c=>.ok c
  |none=>match M0 t with
   |none=>.error 3
   |some c=>.ok c
def Bj(w:e2)(ws:List e2):Except (Nat×Nat) (List C):=
 if w.t.take 2≠ [65,77] then (match yv w.t with
  |.error e=>.error (w.a,e)
  |.ok c=>match ws with
   |[]=>.ok [c]
   |x::_=>.error (x.a,3))
 else if sq (w.t.drop 2)=false then .error (w.a,3)
 else match Bg (ws.map e2.t) with
  |(b,i,e)=>if e≠0 then .error (((ws.map e2.a)[i]?).getD 0,e) else .ok [{cI 19 with t:=w.t.drop 2,blocks:=b}]
def zA(w:e2)(ws:List e2):Except (Nat×Nat) (List C):=
 if w.ext=true then Bj w ws else match Bh w.t with
  |.error e=>.error (w.a,e)
  |.ok l=>.ok l
def yw:Nat→List e2→List (Nat×C)→Except (Nat×Nat) (List (Nat×C))
 |0,_,acc=>.ok acc
 |_+1,[],acc=>.ok acc
 |f+1,w::ws,acc=>match zA w (ws.takeWhile fun x=>!x.first) with
  |.error e=>.error e
  |.ok l=>yw f (ws.dropWhile fun x=>!x.first) (acc++l.map fun c=>(w.a,c))
def k2(s:au):List (Nat×C)× Nat×Nat:=match yr s with
 |(ws,i,e)=>if e≠0 then ([],i,e) else match yw ws.length ws [] with
  |.error (i,e)=>([],i,e)
  |.ok l=>(l,0,0)
theorem Xn(c:UInt8)(r:au)(i:Nat)(s:i6):nc (c::r) i s=match wU s c i with|.error e=>.error (i,e)|.ok s'=>nc r (i+1) s':=rfl
theorem go_append:∀(s t:au) (i:Nat) (st:i6),nc (s++t) i st=match nc s i st with|.error x=>.error x|.ok df=>nc t (i+s.length) df
 |[],t,i,st=>by simp[nc]
 |c::s,t,i,st=>by
  rw[H9,Xn,Xn];cases h:wU st c i with
  |error e=>rfl
  |ok df=>
   simp only[];rw[go_append s t (i+1) df,fY,show i+1+s.length=i+(s.length+1) by omega]
def base(ws:List e2)(a:Nat):i6:=⟨ws,[],a,false,0⟩
def FL(s:au):Prop:=∀i a ws,ws.length+s.count 42<20000→(∃x,nc s i (base ws a)=.error x)∨∃Xo k3,nc s i (base ws a)=.ok (base Xo k3)∧Xo.length≤ws.length+s.count 42
theorem FL.nil:FL []:=fun i a ws _=>.inr ⟨ws,a,rfl,bx _⟩
theorem FL.append{s t:au}(hs:FL s)(bE:FL t):FL (s++t):=by
 intro i a ws h;rw[List.count_append] at h;rw[go_append];rcases hs i a ws (by omega) with ⟨x,e⟩|⟨aha,bA,e,av⟩
 ·rw[e];exact .inl ⟨x,rfl⟩
 ·rw[e];simp only[];rcases bE (i+s.length) bA aha (by omega) with ⟨x,bf⟩|⟨ahb,a2,bf,az⟩
  ·exact .inl ⟨x,bf⟩
  ·exact .inr ⟨ahb,a2,bf,by rw[List.count_append];omega⟩
def wc(c:UInt8):Bool:=decide (32≤c.toNat)&&(decide (c.toNat≤126)&&(c !=42 &&c !=37))
def dC(d:Nat)(w:e2):e2:={w with a:=w.a+d}
end ct
namespace ct
open ig
open wu (x' du)
theorem Xp(f:Nat)(acc:List (Nat×C)):yw f [] acc=.ok acc:=by cases f<;>rfl
end ct
namespace ef
open ym (h6)
open Fr (Rd yn ID)
open ct (eC oX)
def rj(p:b3)(r:Int):dm:={iz with k:=1,a:=p,r:=r}
def C'(p q:b3)(r:Int):dm:={iz with k:=3,a:=p,b:=q,r:=r}
def FM(l:List (List b3)):dm:={iz with k:=2,l:=l}
def zB:dm:={iz with k:=6}
def Bk(b:dm):eg:=⟨b,.nil⟩
def Ri(c:b3)(w h:Int):List b3:=[(c.1-w,c.2-h),(c.1+w,c.2-h),(c.1+w,c.2+h),(c.1-w,c.2+h)]
def Xq(n d u:Int):Int×Nat:=
 if (Rd 3 n d 0 1).2.2≠0 then (0,5)
 else if u≠1∧u≠2 then (0,5)
 else if (n *(if u=1 then 10000000 else 254000000)).tmod d≠0 then (0,7)
 else if (n *(if u=1 then 10000000 else 254000000)).tdiv d< -536870912∨536870912<(n *(if u=1 then 10000000 else 254000000)).tdiv d then (0,5)
 else ((n *(if u=1 then 10000000 else 254000000)).tdiv d,0)
structure kE where
 v:List (Int×Int)
 e:Nat
def kE.fail(t:kE)(e:Nat):kE:=if t.e=0 then {t with e:=e} else t
def kE.next(t:kE):(Int×Int)× kE:=(t.v.headD (0,0),{t with v:=t.v.drop 1})
def kE.len(t:kE)(u:Int):Int×kE:=((Xq t.next.1.1 t.next.1.2 u).1,t.next.2.fail (Xq t.next.1.1 t.next.1.2 u).2)
def kE.yx(t:kE)(u:Int):b3×kE:=(((t.len u).1,((t.len u).2.len u).1),((t.len u).2.len u).2)
def kE.half(t:kE)(u:Int):Int×kE:=
 let g:=(t.len u).1;let t1:=if g<0 then (t.len u).2.fail 4 else (t.len u).2
 (g.tdiv 2,if g.tmod 2≠0 then t1.fail 7 else t1)
def kE.Rj(t:kE):gN×kE:=
 if t.v=[] then (tA,t) else
 ({tA with q:=(t.next.1.1.tdiv 90).tmod 4},if t.next.1.2≠1∨t.next.1.1.tmod 90≠0 then t.next.2.fail 7 else t.next.2)
def kE.II(u:Int):Nat→kE→List b3×kE
 |0,t=>([],t)
 |n+1,t=>((t.yx u).1::(kE.II u n (t.yx u).2).1,(kE.II u n (t.yx u).2).2)
def kE.ahc(t:kE)(k u:Int)(n:Nat):eg×Bool×kE:=
 if k=1 then
  let (r,t):=t.half u;let (c,t):=t.yx u
  (Bk (rj c r),decide (0<r),t)
 else if k=20 then
  let (r,t):=t.half u;let (a,t):=t.yx u;let (b,t):=t.yx u
  (Bk {iz with k:=4,a:=a,b:=b,r:=r},decide (0<r)&&decide (a≠b),t)
 else if k=21 then
  let (w,t):=t.half u;let (h,t):=t.half u;let (c,t):=t.yx u
  (Bk (FM [Ri c w h]),decide (0<w)&&decide (0<h),t)
 else if k=4 then
  let v:=t.next.1;let t:=if v.2≠1∨v.1<1∨500<v.1∨2 *v.1+5≠(n:Int) then t.next.2.fail 4 else t.next.2
  let (l,t):=kE.II u ((n-3)/ 2) t
  (Bk (FM [l.dropLast]),true,if l.getLast?≠l.head? then t.fail 4 else t)
 else if k=7 then
  let (c,t):=t.yx u;let (o,t):=t.half u;let (i,t):=t.half u;let (g,t):=t.half u;let t:=if o≤i∨o≤g then t.fail 4 else t
  (⟨zB,.cons true (rj c o) .nil
   ((if 0<i then bk.cons false (rj c i) .nil .nil else .nil).append
   (if 0<g then .cons false (FM [Ri c o g]) .nil (.cons false (FM [Ri c g o]) .nil .nil) else .nil))⟩,true,t)
 else (W2,true,t)
def M1(k u:Int)(v:List (Int×Int)):bk×Nat:=
 let t:kE:=⟨v,0⟩;let add:=if k≠7 then decide (t.next.1.1=1) else true
 let t:=if k≠7 then (if t.next.1.2≠1∨(t.next.1.1≠0∧t.next.1.1≠1) then t.next.2.fail 4 else t.next.2) else t
 let p:=t.ahc k u v.length;let s:=p.2.2.Rj
 if s.2.e≠0∨p.2.1=false then (.nil,s.2.e) else match Be s.1 p.1 with
  |none=>(.nil,5)
  |some m=>(.one add m,0)
def M3(vars:List (Int×Int)):List (List (Int×Int))→Except Nat (List (Int×Int))
 |[]=>.ok []
 |a::l=>if (ID vars a).2.2≠0 then .error (ID vars a).2.2 else match M3 vars l with
  |.error e=>.error e
  |.ok r=>.ok (((ID vars a).1,(ID vars a).2.1)::r)
def ahd(b:eC):Bool:=
 if b.k=1 then decide (b.n=0)&&decide (b.args.length=0)
 else if b.k=2 then decide (1≤b.n)&&(decide (b.n≤99)&&decide (b.args.length=1))
 else if b.k=3 then oX b.n b.args.length
 else false
def FN(u:Int):List eC→List (Int×Int)→bk→Except Nat bk
 |[],_,p=>.ok p
 |b::l,vars,p=>match M3 vars b.args with
  |.error e=>.error e
  |.ok v=>if b.k=2 then FN u l (vars.set (b.n.toNat-1) (v.headD (0,0))) p
   else if b.k=3 then (if (M1 b.n u v).2≠0 then .error (M1 b.n u v).2 else if 900<(p.append (M1 b.n u v).1).count+1 then .error 6 else FN u l vars (p.append (M1 b.n u v).1))
   else FN u l vars p
def Xr(l:List eC)(args:List (Int×Int))(u:Int):Except Nat eg:=
 if 500<l.length∨l.all ahd=false then .error 3 else match FN u l ((args++List.replicate (99-args.length) (0,1)).take 99) .nil with
  |.error e=>.error e
  |.ok p=>.ok ⟨zB,p⟩
structure lI where
 name:List UInt8
 b:List eC
def pU(s:Nat)(u:Int):List Int→Nat→Except Nat (List Int)
 |[],_=>.ok []
 |n::l,i=>match h6 n u with
  |none=>.error 5
  |some g=>if g<0∨(g=0∧s=2∧i<s) then .error 4 else if g.tmod 2≠0 then .error 7 else match pU s u l (i+1) with
   |.error e=>.error e
   |.ok r=>.ok (g.tdiv 2::r)
def M4:List Int→Except Nat (List (Int×Int))
 |[]=>.ok []
 |n::l=>if (yn n 1000000).2.2≠0 then .error (yn n 1000000).2.2 else match M4 l with
  |.error e=>.error e
  |.ok r=>.ok (((yn n 1000000).1,(yn n 1000000).2.1)::r)
def ahe(name:au)(ms:List lI):Option lI:=ms.reverse.find? fun m=>m.name==name
def Xs(name:au)(bX:List Int)(u:Int)(ms:List lI):Except Nat (eg×Int):=match ahe name ms with
 |none=>.error 4
 |some m=>match M4 bX with
  |.error e=>.error e
  |.ok a=>match Xr m.b a u with
   |.error e=>.error e
   |.ok s=>.ok (s,0)
def IJ(r:Int):dm:=if r=0 then zB else rj (0,0) r
def Rk(w h:Int):dm:=FM [[(-w,-h),(w,-h),(w,h),(-w,h)]]
def FO(w h:Int):dm:=if h<w then C' (h-w,0) (w-h,0) h else if w<h then C' (0,w-h) (0,h-w) w else rj (0,0) w
def Bl(b:dm)(h:Int):eg:=if 0<h then⟨zB,.cons true b .nil (.cons false (rj (0,0) h) .nil .nil)⟩ else Bk b
def oe(name:au)(bX:List Int)(u:Int)(ms:List lI):Except Nat (eg×Int):=
 if name=[67]∨name=[82]∨name=[79] then
  let s:=if name=[67] then 1 else 2
  if bX.length≠s∧bX.length≠s+1 then .error 4 else match pU s u bX 0 with
   |.error e=>.error e
   |.ok h=>let g:=fun i=>h.getD i 0
    if name=[67] then .ok (Bl (IJ (g 0)) (g 1),if g 1=0 then g 0 else 0)
    else if name=[82] then .ok (Bl (Rk (g 0) (g 1)) (g 2),0)
    else .ok (Bl (FO (g 0) (g 1)) (g 2),0)
 else Xs name bX u ms
end ef
namespace ef
open ym (h6 hH so)
open ct (eC C k2)
abbrev eu:=Bool×eg
structure vc where
 dC:eg
 r:Int
 round:Bool
 block:Bool
 fk:List eu
structure pV where
 step:Bool
 code:Int
 n:Int
 m:Int
 fj:b3
 fk:List eu
def M5:pV:=⟨false,0,0,0,(0,0),[]⟩
structure cT where
 unit:Int
 kF:Int
 fd:Int
 eJ:Bool
 formed:Bool
 jv:Int→Option vc
 tM:Int
 fU:List lI
 at_:b3
 mode:Int
 Rl:Bool
 jw:Bool
 dk:gN
 region:Bool
 rk:List (List b3)
 top:pV
 levels:List pV
 made:Int
 budget:Int
 ended:Bool
def tN(b:Int):cT:=⟨0,0,0,false,false,fun _=>none,0,[],(0,0),1,false,true,tA,false,[],M5,[],0,min (max b 0) 100000,false⟩
def oZ(p:cT)(jw:Bool)(s:eg):Except Nat cT:=
 if okV s=false then .error 5 else if p.budget≤p.made then .error 6 else .ok {p with made:=p.made+1,top:={p.top with fk:=p.top.fk++[(jw,s)]}}
def kG(p:cT)(jw:Bool)(s:eg)(t:gN):Except Nat cT:=match Be t s with
 |none=>.error 5
 |some m=>oZ p jw m
def lJ(f:Bool→Bool)(t:gN):List eu→cT→Except Nat cT
 |[],p=>.ok p
 |o::l,p=>match kG p (f o.1) o.2 t with
  |.error e=>.error e
  |.ok q=>lJ f t l q
def Da(p:cT)(code:Int):Bool:=(p.jv code).isSome ||(p.top::p.levels).dropLast.any fun v=>!v.step&&decide (v.code=code)
def Xt(l:List (List b3)):Bool:=match l.getLast? with
 |none=>true
 |some c=>decide (4≤c.length)&&decide (c.head?=c.getLast?)
def ahf(p:cT):Except Nat cT:=
 if Xt p.rk=false then .error 4
 else if 1000<((p.rk.map List.dropLast).map List.length).sum then .error 6
 else if p.rk=[] then .ok {p with rk:=[]}
 else oZ {p with rk:=[]} p.jw (Bk (FM (p.rk.map List.dropLast)))
def Qt(p:cT)(wV:b3):Except Nat cT:=
 if p.region=false then .ok p else if Xt p.rk=false then .error 4 else .ok {p with rk:=p.rk++[[wV]]}
def wW(p:cT)(wV:b3):Except Nat cT:=match p.jv p.tM with
 |none=>.error 4
 |some a=>if p.region=true then .error 4 else if a.block=false then kG p p.jw a.dC {p.dk with fj:=wV} else lJ (fun d=>decide (d=p.jw)) {p.dk with fj:=wV} a.fk p
def ahg(l:List (List b3))(q:b3):List (List b3):=l.dropLast++[l.getLastD [] ++[q]]
def ahh(p:cT)(c:C)(wV mid:b3):Except Nat cT:=
 if p.mode≠1∧p.region=true then .error 8
 else if p.mode≠1∧p.Rl=false then .error 4
 else if p.mode=1∧(c.i≠[]∨c.j≠[]) then .error 4
 else if p.region=true then (if p.rk=[] then .error 4 else .ok {p with rk:=ahg p.rk wV})
 else match p.jv p.tM with
  |none=>.error 4
  |some a=>if a.round=false then .error 4
   else if p.mode=1 then (if a.r=0 then .ok p else oZ p p.jw (Bk (C' p.at_ wV a.r)))
   else
    let x:=if p.mode=2 then wV else p.at_
    let y:=if p.mode=2 then p.at_ else wV
    let z:b3:=(p.at_.1+mid.1,p.at_.2+mid.2)
    if Io z x y=false then .error 9 else if a.r=0 then .ok p else oZ p p.jw (Bk {iz with k:=5,a:=x,b:=y,c:=z,r:=a.r})
def kc(p:cT)(s:au)(was:Int):Option Int:=if s=[] then some was else hH s p.unit p.kF p.fd p.eJ
def sr(p:cT)(c:C):Except Nat cT:=
 if p.unit=0∨p.formed=false then .error 4 else match kc p c.x p.at_.1 with
 |none=>.error 5
 |some x=>match kc p c.y p.at_.2 with
  |none=>.error 5
  |some y=>match kc p c.i 0 with
   |none=>.error 5
   |some i=>match kc p c.j 0 with
    |none=>.error 5
    |some j=>match (if c.n=1 then ahh p c (x,y) (i,j) else if c.n=2 then Qt p (x,y) else if c.n=3 then wW p (x,y) else .error 4) with
     |.error e=>.error e
     |.ok q=>.ok {q with at_:=(x,y)}
def ahi(p:cT)(c:C):Except Nat cT:=
 if Da p c.n=true then .error 4 else if 16≤p.levels.length then .error 6 else .ok {p with top:={M5 with code:=c.n},levels:=p.top::p.levels}
def lb(c:C)(i:Nat):Int:=c.bX.getD i 0
def ahj(p:cT)(c:C):Except Nat cT:=
 if (p.top::p.levels).any (fun v=>v.step)=true then .error 4
 else if 16≤p.levels.length then .error 6
 else if c.n<1∨c.m<1∨lb c 0<0∨lb c 1<0 then .error 4
 else if 10000<c.n∨10000<c.m∨10000<c.n *c.m then .error 6
 else if p.unit=0 then .error 4
 else match h6 (lb c 0) p.unit with
  |none=>.error 5
  |some x=>match h6 (lb c 1) p.unit with
   |none=>.error 5
   |some y=>.ok {p with top:={M5 with step:=true,n:=c.n,m:=c.m,fj:=(x,y)},levels:=p.top::p.levels}
def ahk(p:cT):Except Nat cT:=match p.levels with
 |[]=>.error 4
 |v::l=>if p.top.step=true then .error 4 else .ok {p with top:=v,levels:=l,jv:=fun j=>if j=p.top.code then some ⟨W2,0,false,true,p.top.fk⟩ else p.jv j}
def Xu(v:pV)(x:Int):Nat→Int→cT→Except Nat cT
 |0,_,p=>.ok p
 |k+1,y,p=>match lJ id {tA with fj:=(x *v.fj.1,y *v.fj.2)} v.fk p with
  |.error e=>.error e
  |.ok q=>Xu v x k (y+1) q
def Xv(v:pV):Nat→Int→cT→Except Nat cT
 |0,_,p=>.ok p
 |k+1,x,p=>match Xu v x v.m.toNat 0 p with
  |.error e=>.error e
  |.ok q=>Xv v k (x+1) q
def ahl(p:cT):Except Nat cT:=match p.levels with
 |[]=>.error 4
 |v::l=>if p.top.step=false then .error 4 else Xv p.top p.top.n.toNat 0 {p with top:=v,levels:=l}
def oY(p:cT)(c:C):Except Nat cT:=
 if p.unit=0∨Da p c.n=true then .error 4 else match oe c.t c.bX p.unit p.fU with
  |.error e=>.error e
  |.ok (s,r)=>.ok {p with jv:=fun j=>if j=c.n then some ⟨s,r,decide (c.t=[67])&&(decide (c.bX.length=1)|| decide (c.bX.getD 1 0=0)),false,[]⟩ else p.jv j}
def Db(p:cT)(c:C):Except Nat cT:=
 if c.k=8 then (if p.formed=true∨so 1 c.n c.m=false then .error 4 else .ok {p with kF:=c.n,fd:=c.m,eJ:=c.on,formed:=true})
 else if c.k=9 then (if p.unit≠0 then .error 4 else .ok {p with unit:=c.n})
 else if c.k=19 then (if p.fU.any (fun m=>m.name==c.t)=true then .error 4 else .ok {p with fU:=p.fU++[⟨c.t,c.blocks⟩]})
 else oY p c
def FP(p:cT)(c:C):Except Nat cT:=
 if c.k=2 then .ok {p with mode:=c.n}
 else if c.k=4 then .ok {p with Rl:=true}
 else if c.k=6 then (if (p.jv c.n).isSome=false then .error 4 else .ok {p with tM:=c.n})
 else if c.k=15 then .ok {p with jw:=c.on}
 else if c.k=16 then .ok {p with dk:={p.dk with bB:=decide (c.n=1)|| decide (c.n=3),bW:=decide (c.n=2)|| decide (c.n=3)}}
 else if (lb c 0).tmod 90000000≠0 then .error 7 else .ok {p with dk:={p.dk with q:=((lb c 0).tdiv 90000000).tmod 4}}
def rl(p:cT)(c:C):Except Nat cT:=
 if p.ended=true then .error 4
 else if p.region=true∧(c.k=6∨(11≤c.k∧c.k≤17)) then .error 4
 else if c.k=1∨c.k=18 then .ok p
 else if c.k=8∨c.k=9∨c.k=10∨c.k=19 then Db p c
 else if c.k=2∨c.k=4∨c.k=6∨c.k=15∨c.k=16∨c.k=17 then FP p c
 else if c.k=3 then (if p.region=c.on then .error 4 else if c.on=true then .ok {p with region:=true} else ahf {p with region:=false})
 else if c.k=7 then sr p c
 else if c.k=11 then ahi p c
 else if c.k=13 then ahj p c
 else if c.k=12 then ahk p
 else if c.k=14 then ahl p
 else if c.k=5 then (if p.region=true∨p.levels≠[] then .error 4 else .ok {p with ended:=true})
 else .error 4
def yy:List C→Nat→cT→Except (Nat×Nat) cT
 |[],_,p=>.ok p
 |c::l,i,p=>match rl p c with
  |.error e=>.error (i,e)
  |.ok q=>yy l (i+1) q
def FQ(l:List C)(b:Int):List eu×Nat×Nat:=match yy l 0 (tN b) with
 |.error (i,e)=>([],i,e)
 |.ok p=>if p.ended=false then ([],l.length,11) else (p.top.fk,0,0)
def jx(s:au)(b:Int):List eu×Nat×Nat:=match k2 s with
 |(l,a,e)=>if e≠0 then ([],a,e) else match FQ (l.map Prod.snd) b with
  |(o,i,f)=>if f=0 then (o,0,0) else if i<l.length then ([],((l.map Prod.fst)[i]?).getD 0,f) else ([],s.length,f)
def tO(l:List eu)(x:ck):Int:=l.foldl (fun k o=>uV k (zu x o.2) o.1) 0
structure kH where
 x:Int
 y:Int
 jy:Int
 w:Int
 h:Int
 depth:Int
deriving DecidableEq
def rm(v:kH):Bool:=
 if v.depth<0∨6<v.depth then false
 else if v.jy<1∨536870912<v.jy∨v.jy%(2^v.depth.toNat)≠0 then false
 else if v.w<1∨256<v.w∨v.h<1∨256<v.h then false
 else if v.x< -536870912∨536870912<v.x∨v.y< -536870912∨536870912<v.y then false
 else okB ⟨v.x,v.y,v.x+v.w *v.jy,v.y+v.h *v.jy⟩
def o0(v:kH)(x y:Nat):ck:=⟨v.x+x *v.jy,v.y+(v.h-1-y) *v.jy,v.x+x *v.jy+v.jy,v.y+(v.h-1-y) *v.jy+v.jy⟩
def zC(v:kH):Int:=4^v.depth.toNat
abbrev e3:=Int×Int
structure fL where
 o:eu
 b:ck
 any:Bool
def Bm:bk→Bool
 |.nil=>false
 |.cons _ b s r=>(decide (b.k=4)|| Bm s)|| Bm r
def Dc(s:eg):Bool:=decide (s.b.k=4)|| Bm s.p
def og(l:List eu):List fL:=l.filterMap fun o=>(Iv o.2).map fun b=>⟨o,b,Dc o.2⟩
def gV(g:List fL)(b:ck):List fL:=g.filter fun e=>e.any || !FB e.b b
def py:Nat→List fL→ck→Int→Option e3×Int
 |0,g,b,m=>if m≤0 then (none,m-1) else
  let k:=tO (g.map fL.o) b
  (some (if k=0 then (0,0) else if k=2 then (1,1) else (0,1)),m-1)
 |d+1,g,b,m=>if m≤0 then (none,m-1) else
  let k:=tO (g.map fL.o) b
  if k=0 then (some (0,0),m-1)
  else if k=2 then (some (4 ^(d+1),4 ^(d+1)),m-1)
  else (splitB b).foldl (fun (s:Option e3×Int) q=>match s with
   |(none,m)=>(none,m)
   |(some c,m)=>match py d (gV g q) q m with
    |(none,m)=>(none,m)
    |(some e,m)=>(some (c.1+e.1,c.2+e.2),m)) (some (0,0),m-1)
def mD(v:kH)(g:List fL)(y:Nat):Nat→Nat→List e3→Int→Option (List e3)× Int
 |0,_,acc,m=>(some acc,m)
 |k+1,x,acc,m=>match py v.depth.toNat (gV g (o0 v x y)) (o0 v x y) m with
  |(none,m)=>(none,m)
  |(some c,m)=>mD v g y k (x+1) (acc++[c]) m
def IK(v:kH)(y:Nat):ck:=⟨(o0 v 0 y).aD,(o0 v 0 y).aE,(o0 v (v.w.toNat-1) y).aL,(o0 v (v.w.toNat-1) y).aH⟩
def nI(v:kH)(g:List fL):Nat→Nat→List e3→Int→Option (List e3)× Int
 |0,_,acc,m=>(some acc,m)
 |k+1,y,acc,m=>match mD v (gV g (IK v y)) y v.w.toNat 0 acc m with
  |(none,m)=>(none,m)
  |(some a,m)=>nI v g k (y+1) a m
def IL(l:List eu)(v:kH)(m:Int):Option (List e3)× Int:=nI v (og l) v.h.toNat 0 [] m
def lK(c:Int):Int×Int:=(65536 *max 0 (min c 255),65536 *max 0 (min c 255))
def qv(t:Int×Int):Bool:=decide (0≤t.1)&&(decide (t.1≤t.2)&&decide (t.2≤16711680))
def FR(v:e3)(cells:Int):Bool:=decide (1≤cells)&&(decide (cells≤4096)&&(decide (0≤v.1)&&(decide (v.1≤v.2)&&decide (v.2≤cells))))
def tP(t:Int)(c al k cells:Int):Int:=t *(255 *cells-al *k)+65536 *c *(al *k)
def Bn(t:Int×Int)(c al:Int)(v:e3)(cells:Int):Int:=min (min (min (tP t.1 c al v.1 cells) (tP t.2 c al v.1 cells)) (tP t.1 c al v.2 cells)) (tP t.2 c al v.2 cells)
def Bo(t:Int×Int)(c al:Int)(v:e3)(cells:Int):Int:=max (max (max (tP t.1 c al v.1 cells) (tP t.2 c al v.1 cells)) (tP t.1 c al v.2 cells)) (tP t.2 c al v.2 cells)
def rn(t:Int×Int):Int:=if qv t=true then (t.1+t.2+65536)/ 131072 else 0
end ef
namespace dd
open Go.RowKit ef
variable{w:aeo}{k i:Nat}
theorem iK{j:Nat}{u:ada}(h:k≠j):(w.setCell (aj j i) u).heap[k]?=w.heap[k]?:=tn _ _ _ _ h
theorem M6(w:aeo)(a:Addr)(u:ada):(w.setCell a u).heap.size=w.heap.size:=by simp[World.setCell]
variable{cs:ajv}
theorem cell_of{t:aai}{v:ada}(h:an w k cs t)(aY:cs[i]?=some v):ak w k i v:=by simp[World.cell?,h,aY]
def iL(w:aeo)(b:Nat):Nat→aev→World
 |_,[]=>w
 |m,v::vs=>iL (w.setCell (aj b m) v) b (m+1) vs
def rp(cs:ajv):Nat→aev→Array Value
 |_,[]=>cs
 |m,v::vs=>rp (cs.setIfInBounds m v) (m+1) vs
theorem FT{b:Nat}{t:aai}:∀(vs:aev) {w:aeo} {cs:ajv} {m:Nat},an w b cs t→(iL w b m vs).heap[b]?=some (.cells (rp cs m vs) t)
 |[],_,_,_,h=>h
 |v::vs,_,_,_,h=>FT vs (dt v h)
theorem wX{b k:Nat}(ay:k≠b):∀(vs:aev) {w:aeo} {m:Nat},(iL w b m vs).heap[k]?=w.heap[k]?
 |[],_,_=>rfl
 |v::vs,_,_=>(wX ay vs).trans (iK ay)
theorem wY{S:afp}{b:Nat}(ax:¬S b):∀(vs:aev) {w:aeo} {m:Nat},aP S w (iL w b m vs)
 |[],_,_=>.refl _ _
 |v::vs,w,m=>(aP.set (a:=⟨b,m,none⟩) ax v).trans (wY ax vs)
theorem ss{B:Nat}{b:Nat}(ax:B≤b):∀(vs:aev) {w0 w:aeo} {m:Nat},Below B w0 w→Below B w0 (iL w b m vs)
 |[],_,_,_,h=>h
 |v::vs,_,_,m,h=>ss ax vs (h.setCell (p:=⟨b,m,none⟩) ax v)
theorem Xw(b:Nat):∀(vs:aev) (w:aeo) (m:Nat),(iL w b m vs).heap.size=w.heap.size
 |[],_,_=>rfl
 |v::vs,w,m=>(Xw b vs _ _).trans (M6 _ _ _)
theorem IM:∀(vs:aev) (cs:ajv) (m:Nat),(rp cs m vs).size=cs.size
 |[],_,_=>rfl
 |v::vs,cs,m=>(IM vs _ _).trans (by simp)
theorem Rm:∀(vs:aev) (cs:ajv) (m i:Nat),i<m→(rp cs m vs)[i]?=cs[i]?
 |[],_,_,_,_=>rfl
 |v::vs,cs,m,i,h=>(Rm vs _ _ _ (by omega)).trans (zx (by omega))
theorem Rn:∀(vs:aev) (cs:ajv) (m i:Nat),i<vs.length→m+vs.length≤cs.size→(rp cs m vs)[m+i]?=vs[i]?
 |[],_,_,_,h,_=>absurd h (my _)
 |v::vs,cs,m,0,h,hs=>(Rm vs _ _ _ (by omega)).trans (by rw[IE,IF (by simp only[fY] at hs;omega)];rfl)
 |v::vs,cs,m,i+1,h,hs=>by have:=Rn vs (cs.setIfInBounds m v) (m+1) i (by simpa using h) (by simp only[fY,yp] at hs⊢;omega);rw[show m+(i+1)=m+1+i by omega];exact this
variable{vs:aev}
theorem Xx{m n:Nat}(h:n≤m):(rp cs m vs).toList.take n=cs.toList.take n:=by
 apply FJ;intro i;rw[sg,sg];split
 ·have av:=Rm vs cs m i (by omega);simpa using av
 ·rfl
theorem Xy{m:Nat}(h:m+vs.length≤cs.size):((rp cs m vs).toList.drop m).take vs.length=vs:=by
 apply FJ;intro i;rw[sg];split
 ·rename_i hi;have av:=Rn vs cs m i hi h;rw[yg];simpa using av
 ·rename_i hi;rw[Xl (by omega)]
theorem ahm(h:vs.length=cs.size):rp cs 0 vs=vs.toArray:=by
 apply Rf;intro i;by_cases hi:i<vs.length
 ·have:=Rn vs cs 0 i hi (by omega);rw[j7] at this;rw[this];simp
 ·rw[HX (by rw[IM];omega),HX (by simp;omega)]
theorem oh{b:Nat}{t:aai}(vs:aev)(h:an w b cs t)(aA:vs.length=cs.size):(iL w b 0 vs).heap[b]?=some (.cells vs.toArray t):=by rw[FT vs h,ahm aA]
theorem ds.congr{S:afp}{w:aeo}:∀{s:bk} {xs fy:aev},ds S w s xs→xs.take (s.len *11)=fy.take (s.len *11)→ds S w s fy
 |.nil,_,_,_,_=>trivial
 |.cons a b s r,xs,fy,h,e=>by obtain⟨⟨pl,cl,pp,cp,av,az⟩,c4⟩:=h;have a7:xs.take 11=fy.take 11:=(by have:=fp (List.take 11) e;rw[CU,CU,A7 (by simp only[bk.len];omega)] at this;exact this);have bf:(xs.drop 11).take (r.len *11)=(fy.drop 11).take (r.len *11):=(by have:=fp (List.drop 11) e;rw[Fp,Fp,show (bk.cons a b s r).len *11-11=r.len *11 by simp only[bk.len];omega] at this;exact this);exact⟨⟨pl,cl,pp,cp,by rw[←a7];exact av,az⟩,ds.congr c4 bf⟩
theorem ds.join{S:afp}{w:aeo}:∀{s t:bk} {xs:aev},ds S w s xs→ds S w t (xs.drop (s.len *11))→ds S w (s.append t) xs
 |.nil,_,xs,_,h=>by simpa[bk.append,bk.len] using h
 |.cons a b s r,t,xs,h,g=>by
  refine⟨h.1,ds.join h.2 ?_⟩;rw[si]
  rwa [show 11+r.len *11=(bk.cons a b s r).len *11 by simp only[bk.len];omega]
theorem bV{v Z:aeo}(ax:ao v v Z){x:ada}(h:ak v k i x):ak Z k i x:=by
 have ay:k<v.heap.size:=by
  by_cases ay:k<v.heap.size
  ·exact ay
  ·have:v.heap[k]?=none:=HX (by omega);simp[World.cell?,this] at h
 have:=ax.block k ay;simpa[World.cell?,this] using h
theorem o1{P:Program}{fn:Func}{p u:Tmp}{ty:aai}(h:fn.results= #[.cell p ty,.tmp u])(tmps:ajv)(w:aeo)(g:Nat)(t:aai)(cs:ajv)(fr:Nat×Nat)(d:TypeDesc)
  (hp:tmps.getD p undef=.pointer (some (aj g 0))) (aF:w.heap[g]?=some (.cells cs t fr))
  (hu:P.underlying ty=some d) (hd:(match d with|.struct _|.array _ _=>true|_=>false)=true) (hi:(P.info? ty).map (·.size)=some cs.size):
  (results fn tmps).run P w=.ok (.tuple #[.agg cs,tmps.getD u undef]) w:=by
 rw[results_cell_tmp h,hp];simp only[asAddr,MV,uZ,run_loadVar_row w g t ty cs fr d aF hu hd hi]
theorem Bp{a b c:Bool}(h:(a=true↔b=true))(e:b=c):a=c:=e ▸ Bool.eq_iff_iff.2 h
theorem jz(w:aeo)(o:Obj):ao w w (w.alloc o):=a6 w o
theorem pz(w:aeo)(o p:Obj):ao w w ((w.alloc o).alloc p):=(a6 w o).alloc (by simp) _
theorem Xz(w:aeo)(o p q:Obj):ao w w (((w.alloc o).alloc p).alloc q):=(pz w o p).alloc (by simp;omega) _
theorem M7(v:Int)(f:Bool)(hf:af (tD v=f))(w:aeo):Calls Tryz.prog 121 #[I v] w fun e w'=>e=ab (U f)∧w'=w:=by
 go_enter Tryz.func121,Tryz.ntmps121;go_wp2_with fail
 all_goals
  go_ret;refine⟨dD (Bp ⟨fun h=>?_,fun h=>?_⟩ hf.out),rfl⟩<;>simp only[tD,jh,jR,wL] at h⊢<;>omega
theorem XA(b:ck)(f:Bool)(hf:af (okB b=f))(w:aeo):Calls Tryz.prog 83 #[h5 b] w fun e w'=>e=ab (U f)∧ao w w w':=by
 obtain⟨aD,aE,aL,aH⟩:=b;have h:=hf.out;clear hf;unfold okB at h;simp only at h;obtain⟨f0,aS⟩:=ar (tD aD);obtain⟨f1,av⟩:=ar (tD aE);obtain⟨f2,az⟩:=ar (tD aL);obtain⟨f3,aC⟩:=ar (tD aH);rw[aS,av,az,aC] at h;have qw:=aq aS;have H1:=aq av;have dp:=aq az;have eo:=aq aC;clear aS av az aC;by_cases aQ:aD≤aL
 case neg=>
  have aO:af (false=f):=(by show _=_;rw[←h,ey aQ];rfl);clear h;go_enter Tryz.func83,Tryz.ntmps83;go_wp2_with fail;go_ret;exact⟨dD aO.out,jz _ _⟩
 by_cases aN:aE≤aH
 case neg=>
  have aO:af (false=f):=(by show _=_;rw[←h,ey aN];simp);clear h;go_enter Tryz.func83,Tryz.ntmps83;go_wp2_with fail;go_ret;exact⟨dD aO.out,jz _ _⟩
 have aO:af ((f0&&(f1&&(f2&&f3)))=f):=by show _=_;rw[←h,eL aQ,eL aN];rfl
 clear h;go_enter Tryz.func83,Tryz.ntmps83;go_wp2_with fail;with_reducible refine (M7 _ _ qw _).mono ?_
 rintro e cc ⟨rfl,rfl⟩;cases f0 with
 |false=>
  go_wp2_with fail;go_ret;exact⟨dD aO.out,jz _ _⟩
 |true=>
  go_wp2_with fail;with_reducible refine (M7 _ _ H1 _).mono ?_
  rintro e cc ⟨rfl,rfl⟩;cases f1 with
  |false=>
   go_wp2_with fail;go_ret;exact⟨dD aO.out,jz _ _⟩
  |true=>
   go_wp2_with fail;with_reducible refine (M7 _ _ dp _).mono ?_
   rintro e cc ⟨rfl,rfl⟩;cases f2 with
   |false=>
    go_wp2_with fail;go_ret;exact⟨dD aO.out,jz _ _⟩
   |true=>
    go_wp2_with fail;with_reducible refine (M7 _ _ eo _).mono ?_
    rintro e cc ⟨rfl,rfl⟩;go_wp2_with fail;go_ret;exact⟨dD aO.out,jz _ _⟩
theorem XB(b:ck)(p:b3)(f:Bool)(hf:af ((decide (b.aD≤p.1)&&(decide (p.1≤b.aL)&&(decide (b.aE≤p.2)&&decide (p.2≤b.aH))))=f))(w:aeo):Calls Tryz.prog 269 #[h5 b,lG p] w fun e w'=>e=ab (U f)∧ao w w w':=by
 obtain⟨aD,aE,aL,aH⟩:=b;obtain⟨de,cZ⟩:=p;go_enter Tryz.func269,Tryz.ntmps269;go_wp2_with fail
 all_goals
  go_ret;refine⟨dD (Bp ⟨fun h=>?_,fun h=>?_⟩ hf.out),pz _ _ _⟩<;>simp only[jh,jR,wL] at h⊢<;>omega
theorem Ro(b:ck)(f:Bool)(hf:af (sj b=f))(w:aeo):Calls Tryz.prog 171 #[h5 b] w fun e w'=>e=ab (U f)∧ao w w w':=by
 obtain⟨aD,aE,aL,aH⟩:=b;go_enter Tryz.func171,Tryz.ntmps171;go_wp2_with fail
 all_goals
  go_ret;refine⟨dD (Bp ⟨fun h=>?_,fun h=>?_⟩ hf.out),jz _ _⟩<;>simp only[sj,Bb,jR,wL] at h⊢<;>omega
theorem cJ{t:aai}(h:an w k cs t)(i:Nat):w.frozen? ⟨k,i,none⟩=false:=by simp[World.frozen?,h]
theorem gW{aD aE aL aH:Int}(h:w.heap[k]?=some (cV ⟨aD,aE,aL,aH⟩)):ak w k 0 (I aD)∧ak w k 1 (I aE)∧ak w k 2 (I aL)∧ak w k 3 (I aH):=by refine⟨?_,?_,?_,?_⟩<;>simp[World.cell?,h]
theorem ahn(a b:ck)(f:Bool)(hf:af (FB a b=f))(w:aeo):Calls Tryz.prog 124 #[h5 a,h5 b] w fun e w'=>e=ab (U f)∧ao w w w':=by
 obtain⟨ek,aS⟩:=ar (sj a);obtain⟨a7,av⟩:=ar (sj b);have h:=hf.out;clear hf;unfold FB at h;rw[aS,av] at h;obtain⟨aD,aE,aL,aH⟩:=a;obtain⟨u0,v0,u1,v1⟩:=b;simp only at h;have qw:=aq aS;have H1:=aq av;have hz:=aq h;clear aS av h;go_enter Tryz.func124,Tryz.ntmps124;go_upto_region 1 with fail;obtain⟨W,bo⟩:=ar ((w.alloc (cV ⟨aD,aE,aL,aH⟩)).alloc (cV ⟨u0,v0,u1,v1⟩));have aI:af (ao w w W):=by show Below _ _ _;rw[←bo];exact pz _ _ _
 have cy:af (W.heap[w.heap.size]?=some (cV ⟨aD,aE,aL,aH⟩)):=by show _=_;rw[←bo];exact aU (bY _ _) (a6 _ _)
 have bC:af (W.heap[w.heap.size+1]?=some (cV ⟨u0,v0,u1,v1⟩)):=by show _=_;rw[←bo,←wP w (cV ⟨aD,aE,aL,aH⟩)];exact bY _ _
 rw[bo];clear bo;obtain⟨a0,bA,a2,a3⟩:=gW cy.out;obtain⟨cu,cS,bq,fA⟩:=gW bC.out;go_wp2_with fail;with_reducible refine (Ro ⟨aD,aE,aL,aH⟩ _ qw _).mono ?_
 rintro e b7 ⟨rfl,er⟩;have cC:af (ao w w b7):=aI.out.trans (er.mono aI.out.size);have su:=aq (aU cy.out er);have lY:=aq (aU bC.out er);clear a0 bA a2 a3 cu cS bq fA er;obtain⟨a0,bA,a2,a3⟩:=gW su.out;obtain⟨cu,cS,bq,fA⟩:=gW lY.out;cases ek with
 |true=>
  have aO:af (true=f):=(by show _=_;rw[←hz.out];rfl);go_wp2_with fail;go_ret;exact⟨dD aO.out,cC.out⟩
 |false=>
  go_wp2_with fail;with_reducible refine (Ro ⟨u0,v0,u1,v1⟩ _ H1 _).mono ?_
  rintro e b4 ⟨rfl,dc⟩;have c6:af (ao w w b4):=cC.out.trans (dc.mono cC.out.size);have qx:=aq (aU su.out dc);have gl:=aq (aU lY.out dc);clear a0 bA a2 a3 cu cS bq fA dc;obtain⟨a0,bA,a2,a3⟩:=gW qx.out;obtain⟨cu,cS,bq,fA⟩:=gW gl.out;cases a7 with
  |true=>
   have aO:af (true=f):=(by show _=_;rw[←hz.out];rfl);go_wp2_with fail;go_ret;exact⟨dD aO.out,c6.out⟩
  |false=>
   go_wp2_with fail
   all_goals
    go_ret;refine⟨dD (Bp ⟨fun h=>?_,fun h=>?_⟩ hz.out),c6.out⟩<;>simp only[Bb,jR,wL,false_or] at h⊢<;>(try simp only[false_or] at h)<;>first|omega|(trace_state;fail)
def hQ(p:b3):Prop:=(-536870912≤p.1∧p.1≤536870912)∧-536870912≤p.2∧p.2≤536870912
theorem XC{a b:Int}(ha:-1073741824≤a∧a≤1073741824)(ax:-1073741824≤b∧b≤1073741824):-1152921504606846976≤a *b∧a *b≤1152921504606846976:=by
 have av:0≤(1073741824-a) *(1073741824+b):=jV (by omega) (by omega);have az:0≤(1073741824+a) *(1073741824-b):=jV (by omega) (by omega);have aC:0≤(1073741824-a) *(1073741824-b):=jV (by omega) (by omega);have bt:0≤(1073741824+a) *(1073741824+b):=jV (by omega) (by omega);have a7:(1073741824-a) *(1073741824+b)=1152921504606846976+1073741824 *b-1073741824 *a-a *b:=by grind
 have bf:(1073741824+a) *(1073741824-b)=1152921504606846976-1073741824 *b+1073741824 *a-a *b:=by grind
 have cM:(1073741824-a) *(1073741824-b)=1152921504606846976-1073741824 *b-1073741824 *a+a *b:=by grind
 have hO:(1073741824+a) *(1073741824+b)=1152921504606846976+1073741824 *b+1073741824 *a+a *b:=by grind
 omega
theorem FU(o a b:b3)(bm:hQ o)(ha:hQ a)(ax:hQ b)(f:Int)(hf:af (eR o a b=f))(w:aeo):Calls Tryz.prog 311 #[lG o,lG a,lG b] w fun e w'=>e=ab (I f)∧ao w w w':=by obtain⟨ox,sw⟩:=o;obtain⟨a1,aZ⟩:=a;obtain⟨a8,Dd⟩:=b;unfold hQ at bm ha ax;simp only at bm ha ax;have m1:=XC (a:=a1-ox) (b:=Dd-sw) (by omega) (by omega);have m2:=XC (a:=aZ-sw) (b:=a8-ox) (by omega) (by omega);have cc:ae (a1-ox)=a1-ox:=cY _ (by omega);have b9:ae (Dd-sw)=Dd-sw:=cY _ (by omega);have dP:ae (aZ-sw)=aZ-sw:=cY _ (by omega);have cW:ae (a8-ox)=a8-ox:=cY _ (by omega);have bI:ae ((a1-ox) *(Dd-sw))=(a1-ox) *(Dd-sw):=cY _ (by omega);have cN:ae ((aZ-sw) *(a8-ox))=(aZ-sw) *(a8-ox):=cY _ (by omega);have k4:ae ((a1-ox) *(Dd-sw) -(aZ-sw) *(a8-ox))=(a1-ox) *(Dd-sw) -(aZ-sw) *(a8-ox):=cY _ (by omega);clear m1 m2 bm ha ax;go_enter Tryz.func311,Tryz.ntmps311;go_wp2_with fail;go_ret;exact⟨pt hf.out,Xz _ _ _ _⟩
theorem vd(w:aeo)(o p:Obj):((w.alloc o).alloc p).heap[w.heap.size+1]?=some p:=by rw[←wP w o];exact bY _ _
abbrev FV(b:ck):Value:=.agg #[I b.aD,I b.aE,I b.aL,I b.aE,I b.aD,I b.aH,I b.aL,I b.aH]
theorem aho(b:ck)(w:aeo):Calls Tryz.prog 274 #[h5 b] w fun e w'=>e=ab (FV b)∧ao w w w':=by obtain⟨aD,aE,aL,aH⟩:=b;go_enter Tryz.func274,Tryz.ntmps274;go_wp2_with fail;have key:=vd w (cV ⟨aD,aE,aL,aH⟩) (ai (#[I aD,I aE,I aL,I aE,I aD,I aH,I aL,I aH]) 394);exact dU (tK rfl _ _ (w.heap.size+1) _ _ _ _ rfl key Tryz.underlying394 rfl (by kernel_rfl)) rfl ⟨rfl,pz _ _ _⟩
end dd
