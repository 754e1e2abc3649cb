/- Lemmas. -/
import Derived.Test.YtkaiaijcieaofaaGreatDoorQ0
import Derived.Laws.Rows
set_option linter.all false
set_option maxRecDepth 100000
set_option maxHeartbeats 3200000
namespace Go.Proofs.YtkaiaijcieaofaaGreatDoor
abbrev dL:=@heap_alloc_new
abbrev gw:=@IntWalk.i64_in
abbrev BJ:=@Int.mul_nonneg
abbrev Nz:=@Int.le_total
abbrev s7:=@Calls.quiet_of_same
abbrev fJ:=@decide_eq_false
abbrev gx:=@decide_eq_true
abbrev Gp:=@Bool.true_and
abbrev NA:=@List.mem_of_mem_take
abbrev DR:=@List.mem_singleton
abbrev nx:=@List.map_cons
abbrev RF:=@List.sum_cons
abbrev Gq:=@Bool.false_and
abbrev Ac:=@List.drop_eq_nil_of_le
namespace c1
open Go.RowKit ef
variable{w:aeo}
theorem iu{B:Nat}{a:aeo}(h:Below B a w)(n:Nat):Below B a (w.drewN n):=⟨h.os,h.tape,h.output,h.size,h.block⟩
theorem ba{w':aeo}{k:Nat}{o:Obj}(h:w.heap[k]?=some o)(ay:an w w w'):w'.heap[k]?=some o:=(ay.block k (lt_of_heap h)).trans h
theorem fR{k:Nat}{p:b7}(h:w.heap[k]?=some (j7 p)):ak w k 0 (I p.1)∧ak w k 1 (I p.2):=by constructor<;>simp[World.cell?,h]
theorem cR(w:aeo)(o:Obj):(w.alloc o).heap[w.heap.size]?=some o:=dL w o
theorem s8(w:aeo)(o:Obj):(w.alloc o).heap.size=w.heap.size+1:=by simp
theorem bh(w:aeo)(o:Obj):an w w (w.alloc o):=(Below.refl _ _).alloc (aP _) _
theorem DS{W:aeo}{ek bV gl:Obj}(h:((w.alloc ek).alloc bV).alloc gl=W):W.heap[w.heap.size]?=some ek∧W.heap[w.heap.size+1]?=some bV∧W.heap[w.heap.size+1+1]?=some gl∧an w w W∧W.heap.size=w.heap.size+3:=by subst h;have aY:=s8 w ek;have a6:=s8 (w.alloc ek) bV;have cV:=s8 ((w.alloc ek).alloc bV) gl;have au:=cR w ek;have ax:=cR (w.alloc ek) bV;have aA:=cR ((w.alloc ek).alloc bV) gl;rw[aY] at ax a6;rw[a6] at aA cV;have cw:=bh w ek;have bl:=bh (w.alloc ek) bV;have ll:=bh ((w.alloc ek).alloc bV) gl;exact⟨ba (ba au bl) ll,ba ax ll,aA,(cw.trans (bl.mono (by omega))).trans (ll.mono (by omega)),cV⟩
theorem Gr{a b:Int}(h:a=b):Ending.returned (I a)=ab (I b):=by rw[h]
def e5(x:Int):Prop:=-2305843009213693952≤x∧x≤2305843009213693952
theorem X1(v lo hi:Int)(h:e5 v∧e5 lo∧e5 hi)(g:Int)(aI:af (yG v lo hi=g))(w:aeo):
  Calls Tryz.prog 228 #[I v,I lo,I hi] w fun e w'=>e=ab (I g)∧w'=w:=by
 unfold e5 at h;have au:ae (lo-v)=lo-v:=gw _ (by omega);have ax:ae (v-hi)=v-hi:=gw _ (by omega);clear h;go_enter Tryz.func228,Tryz.ntmps228;go_wp2_with fail
 all_goals
  go_ret;refine⟨Gr ?_,rfl⟩;have:=aI.out
  grind [yG]
def oQ(x:Int):Prop:=-2147483647≤x∧x≤2147483647
theorem X2{x:Int}(h:oQ x):0≤x *x∧x *x≤4611686014132420609:=by
 obtain⟨au,ax⟩:=h;have aA:0≤(2147483647-x) *(2147483647+x):=BJ (by omega) (by omega);have bb:(2147483647-x) *(2147483647+x)=4611686014132420609-x *x:=by grind
 have bj:0≤x *x:=by
  rcases Nz 0 x with h|h
  ·exact BJ h h
  ·have:=BJ (a:=-x) (b:=-x) (by omega) (by omega)
   rwa [Int.neg_mul_neg] at this
 omega
structure RE.In(b:RE):Prop where
 eC:e5 b.eC
 dH:e5 b.dH
 eu:e5 b.eu
 c0:e5 b.c0
theorem ahu(eC dH eu c0 gm gn:Int)(ay:RE.In ⟨eC,dH,eu,c0⟩)(hp:e5 gm∧e5 gn)(ln lp:Int)(hx:af (yG gm eC eu=ln))(hy:af (yG gn dH c0=lp))(X3:oQ ln)(RG:oQ lp)(d:Int)(hd:af (ln *ln+lp *lp=d))(w:aeo):
  Calls Tryz.prog 205 #[.agg #[I eC,I dH,I eu,I c0],.agg #[I gm,I gn]] w fun e w'=>e=ab (I d)∧an w w w':=by
 have H1:=ao ay;have bp:=ao hp;have au:=X2 X3;have ax:=X2 RG;have bk:ae (ln *ln)=ln *ln:=gw _ (by omega);have bt:ae (lp *lp)=lp *lp:=gw _ (by omega);have db:ae (ln *ln+lp *lp)=d:=by rw[←hd.out];exact gw _ (by omega)
 have RH:=ao (X1 gm eC eu ⟨hp.1,ay.eC,ay.eu⟩ ln hx);have RI:=ao (X1 gn dH c0 ⟨hp.2,ay.dH,ay.c0⟩ lp hy);clear au ax X3 RG ay hp H1 bp;go_enter Tryz.func205,Tryz.ntmps205;go_upto_region 1 with fail
 go_quiet (first
  |(go_at_call 228;with_reducible exact s7 (RH.out _))
  |(go_at_call 228;with_reducible exact s7 (RI.out _))
  |fail)
 go_wp2_with fail;go_ret;exact⟨rfl,iu (((Below.refl _ _).alloc (aP _) _).alloc (by simp) _) _⟩
theorem X4(v q:Int):yG v q q *yG v q q=(v-q) *(v-q)∧(oQ (v-q)→oQ (yG v q q)):=by
 unfold yG oQ;by_cases au:v<q
 ·rw[aW au];exact⟨by grind,by omega⟩
 ·rw[aN au];by_cases ax:q<v
  ·rw[aW ax];exact⟨rfl,id⟩
  ·rw[aN ax];obtain rfl:v=q:=(by omega);simp
theorem X5(p q:b7)(hp:e5 p.1∧e5 p.2)(aG:e5 q.1∧e5 q.2)(f1:oQ (p.1-q.1))(f2:oQ (p.2-q.2))(d:Int)(hd:af (Gm p q=d))(w:aeo):
  Calls Tryz.prog 185 #[Gn p,Gn q] w fun e w'=>e=ab (I d)∧an w w w':=by
 obtain⟨gm,gn⟩:=p;obtain⟨BK,BL⟩:=q;obtain⟨ln,hx⟩:=aq (yG gm BK BK);obtain⟨lp,hy⟩:=aq (yG gn BL BL);have dP:=X4 gm BK;have bM:=X4 gn BL;rw[hx] at dP;rw[hy] at bM;have b9:af (ln *ln+lp *lp=d):=by show _=_;rw[dP.1,bM.1,←hd.out];rfl
 have G:=ao (ahu BK BL BK BL gm gn ⟨aG.1,aG.2,aG.1,aG.2⟩ hp ln lp hx hy (dP.2 f1) (bM.2 f2) d b9);clear dP bM f1 f2 hp aG hx hy b9 hd;go_enter Tryz.func185,Tryz.ntmps185;go_wp2_with fail;with_reducible refine (G.out _).mono ?_
 rintro e w' ⟨rfl,ay⟩;have aH:af (an w w w'):=(((Below.refl _ _).alloc (aP _) _).alloc (by simp) _).trans (ay.mono (by simp<;>omega));clear ay;go_wp2_with fail;go_ret;exact⟨rfl,aH.out⟩
theorem X6(c a e:b7)(aB:e5 c.1∧e5 c.2)(ha:e5 a.1∧e5 a.2)(he:e5 e.1∧e5 e.2)(f1:oQ (a.1-c.1))(f2:oQ (a.2-c.2))(f3:oQ (e.1-c.1))(f4:oQ (e.2-c.2))(b:Bool)(ay:af (Ab c a e=b))(w:aeo):
  Calls Tryz.prog 163 #[Gn c,Gn a,Gn e] w fun r w'=>r=ab (U b)∧an w w w':=by
 obtain⟨d1,gL⟩:=aq (Gm a c);obtain⟨d2,hE⟩:=aq (Gm e c);have RH:=ao (X5 a c ha aB f1 f2 d1 gL);have RI:=ao (X5 e c he aB f3 f4 d2 hE);have aH:af ((decide (d1≠0)&&decide (d1=d2))=b):=by show _=_;rw[←ay.out];unfold Ab;rw[gL,hE]
 obtain⟨cx,bA⟩:=c;obtain⟨a7,a'⟩:=a;obtain⟨ex,cm⟩:=e;clear aB ha he f1 f2 f3 f4 ay gL hE;go_enter Tryz.func163,Tryz.ntmps163;go_upto_region 1 with fail;obtain⟨W,cP⟩:=aq (((w.alloc (j7 (cx,bA))).alloc (j7 (a7,a'))).alloc (j7 (ex,cm)));obtain⟨au,ax,aA,DT,fw⟩:=DS cP;have cc:=ao aA;have bG:=ao au;have hG:=ao DT;obtain⟨aT,c2⟩:=fR au;obtain⟨ew,a2⟩:=fR ax;simp only[j7] at cP;rw[cP];clear au ax aA DT cP fw;go_wp2_with fail;with_reducible refine (RH.out _).mono ?_
 rintro r bk ⟨rfl,cj⟩;have cG:af (an w w bk):=hG.out.trans (cj.mono hG.out.size);have aY:=fR (ba cc.out cj);have a6:=fR (ba bG.out cj);obtain⟨fx,df⟩:=aY;obtain⟨bI,bJ⟩:=a6;clear aT c2 ew a2 cj;by_cases aF:d1=0
 ·have aJ:af (false=b):=(by show _=_;rw[←aH.out,fJ (by simp[aF])];rfl);have NB:(d1 !=0)=false:=(by rw[aF];rfl);go_wp2_with fail;go_ret;exact⟨h1 aJ.out,cG.out⟩
 ·have NB:(d1 !=0)=true:=(by simp[aF]);go_wp2_with fail;with_reducible refine (RI.out _).mono ?_
  rintro r bt ⟨rfl,ck⟩;have dy:af (an w w bt):=cG.out.trans (ck.mono cG.out.size);clear ck;go_wp2_with fail;go_ret;refine⟨h1 ?_,dy.out⟩;rw[←aH.out,gx aF,Gp]
  grind
end c1
namespace mm
open ga
open Go.Lib (decDigits nDigits trimRightB)
def r3(u:Int):Int:=if u=1 then 10 else if u=2 then 254 else 0
def s9(u i d:Int):Bool:=(decide (u=1)|| decide (u=2))&&(decide (0≤i)&&decide (i≤6))&&(decide (0≤d)&&decide (d≤6))&&decide (0<i+d)
theorem RJ(u i d:Int):s9 u i d=true↔(u=1∨u=2)∧0≤i∧i≤6∧0≤d∧d≤6∧0<i+d:=by simp[s9];omega
def fW(n u:Int):Option Int:=
 if r2 n=true∧(u=1∨u=2)∧-536870912≤n *r3 u∧n *r3 u≤536870912 then some (n *r3 u) else none
def kk(l:ar)(u i d:Int)(t:Bool):Option Int:=
 if s9 u i d=true∧1≤(strip l).2.length∧((strip l).2.length:Int)≤i+d∧bK (strip l).2=(strip l).2.length then
  let v:Int:=(val (strip l).2 *(if t then 10 ^((i+d).toNat -(strip l).2.length) else 1) *10 ^(6-d.toNat):Nat)
  fW (if (strip l).1 then -v else v) u
 else none
theorem ahv{u:Int}(h:u=1∨u=2):0<r3 u:=by rcases h with rfl|rfl<;>decide
theorem ahw{u:Int}(h:u=1∨u=2):r3 u=10∨r3 u=254:=by rcases h with rfl|rfl<;>simp[r3]
theorem Jw(k:Nat)(h:k≤12):10^k≤1000000000000:=by have:=vK (n:=10) (by decide) h;simpa using this
end mm
namespace Fr
def jT(n d:Int):Int×Int×Nat:=
 if d=0 then (0,0,10) else if 1073741824<n.natAbs/Nat.gcd n.natAbs d.natAbs∨1073741824<d.natAbs/Nat.gcd n.natAbs d.natAbs then (0,0,5)
 else (if (n<0)≠(d<0) then -((n.natAbs/Nat.gcd n.natAbs d.natAbs:Nat):Int) else ((n.natAbs/Nat.gcd n.natAbs d.natAbs:Nat):Int),((d.natAbs/Nat.gcd n.natAbs d.natAbs:Nat):Int),0)
def In(n d:Int):Prop:=1≤d∧d≤1073741824∧-1073741824≤n∧n≤1073741824
instance(n d:Int):Decidable (In n d):=by unfold In;infer_instance
def oR(n d:Int):Bool:=decide (In n d)&&decide (Nat.gcd n.natAbs d.natAbs=1)
def kF(k n d m e:Int):Int×Int×Nat:=
 if oR n d=true∧oR m e=true then
  (if k=3 then jT (n *e+m *d) (d *e) else if k=4 then jT (n *e-m *d) (d *e) else if k=5 then jT (n *m) (d *e) else if k=6 then jT (n *e) (d *m) else (0,0,5))
 else (0,0,5)
theorem DU{n d:Int}(h:oR n d=true):In n d:=by unfold oR at h;simp only[qv,p0] at h;exact h.1
theorem ahx(n:Nat){d:Nat}(h:0<d):0<Nat.gcd n d:=Nat.gcd_pos_of_pos_right n h
theorem Ad(n d:Int):-1073741824≤(jT n d).1∧(jT n d).1≤1073741824∧0≤(jT n d).2.1∧(jT n d).2.1≤1073741824:=by
 unfold jT;split
 ·decide
 ·split
  ·decide
  ·rename_i h;dsimp only;generalize n.natAbs/n.natAbs.gcd d.natAbs=x at h;generalize d.natAbs/n.natAbs.gcd d.natAbs=y at h;split<;>omega
theorem RL(k n d m e:Int):-1073741824≤(kF k n d m e).1∧(kF k n d m e).1≤1073741824∧0≤(kF k n d m e).2.1∧(kF k n d m e).2.1≤1073741824:=by
 unfold kF;split
 ·split
  ·exact Ad _ _
  ·split
   ·exact Ad _ _
   ·split
    ·exact Ad _ _
    ·split
     ·exact Ad _ _
     ·decide
 ·decide
end Fr
namespace Fr
open ga
def jd(k n:Int):Bool:=
 if k=1 then decide (0≤n)&&r2 n else if k=2 then decide (1≤n∧n≤99) else if 3≤k∧k≤7 then decide (n=0) else false
def uz(k:Int):Nat:=if k=1∨k=2 then 0 else if k=7 then 1 else 2
def top(st:List (Int×Int))(i:Nat):Int×Int:=st.getD (st.length-i) (0,0)
def iR(vars:List (Int×Int))(n:Int):Int×Int:=if n≤vars.length then vars.getD (n.toNat-1) (0,0) else (0,1)
def iT(vars st:List (Int×Int))(k n:Int):Int×Int×Nat:=
 if k=1 then jT n 1000000
 else if k=2 then ((iR vars n).1,(iR vars n).2,if oR (iR vars n).1 (iR vars n).2=true then 0 else 5)
 else if k=7 then (-(top st 1).1,(top st 1).2,0)
 else kF k (top st 2).1 (top st 2).2 (top st 1).1 (top st 1).2
def ny(vars st:List (Int×Int))(k n:Int):List (Int×Int)× Nat:=
 if jd k n=false∨st.length<uz k then (st,3)
 else if (iT vars st k n).2.2=0 then (st.take (st.length-uz k)++[((iT vars st k n).1,(iT vars st k n).2.1)],0) else (st,(iT vars st k n).2.2)
def p2(st:List (Int×Int)):Int×Int×Nat:=match st with
 |[x]=>(x.1,x.2,0)
 |_=>(0,0,3)
def iF(vars:List (Int×Int)):List (Int×Int)→List (Int×Int)→Int×Int×Nat
 |[],st=>p2 st
 |o::l,st=>if (ny vars st o.1 o.2).2=0 then iF vars l (ny vars st o.1 o.2).1 else (0,0,(ny vars st o.1 o.2).2)
def BM(vars l:List (Int×Int)):Int×Int×Nat:=iF vars l []
def Small(st:List (Int×Int)):Prop:=∀x∈st,-1073741824≤x.1∧x.1≤1073741824∧0≤x.2∧x.2≤1073741824
theorem Small.take{st:List (Int×Int)}(h:Small st)(k:Nat):Small (st.take k):=fun x hx=>h x (NA hx)
theorem Small.snoc{st:List (Int×Int)}(h:Small st){n d:Int}(au:-1073741824≤n)(ax:n≤1073741824)(aA:0≤d)(bb:d≤1073741824):Small (st++[(n,d)]):=by
 intro x hx;rcases List.mem_append.1 hx with hx|hx
 ·exact h x hx
 ·simp only[DR] at hx;subst hx;exact⟨au,ax,aA,bb⟩
theorem RM{k n:Int}(h:jd k n=true):(k=1∧0≤n∧n<1000000000000)∨(k=2∧1≤n∧n≤99)∨(3≤k∧k≤6∧n=0)∨(k=7∧n=0):=by
 unfold jd at h;split at h
 ·rename_i aw;simp only[qv,p0,r2] at h;exact .inl ⟨aw,by omega,by omega⟩
 ·split at h
  ·rename_i aw;simp only[p0] at h;exact .inr (.inl ⟨aw,h.1,h.2⟩)
  ·split at h
   ·rename_i aw;simp only[p0] at h;by_cases cY:k=7
    ·exact .inr (.inr (.inr ⟨cY,h⟩))
    ·exact .inr (.inr (.inl ⟨aw.1,by omega,h⟩))
   ·cases h
end Fr
namespace cB
open ga
open ph (uu)
structure eR where
 a:Nat
 ext:Bool
 first:Bool
 t:List UInt8
deriving DecidableEq
structure je where
 words:List eR
 text:List UInt8
 a:Nat
 group:Bool
 inner:Nat
deriving DecidableEq
def w5:je:=⟨[],[],0,false,0⟩
def Jx(s:je):Except Nat je:=
 if s.text=[] then .error 2 else .ok {s with words:=s.words++[⟨s.a,s.group,decide (s.inner=0),s.text⟩],inner:=(if s.group=true then s.inner+1 else s.inner),text:=[]}
def DV(s:je)(c:UInt8):Except Nat je:=if s.text.length=10000 then .error 6 else .ok {s with text:=s.text++[c]}
def w6(s:je)(c:UInt8)(i:Nat):Except Nat je:=
 if c=13∨c=10 then .ok s
 else if c.toNat<32∨126<c.toNat then .error 2
 else if c=42 then Jx s
 else if c=37 then (if s.text≠[]∨(s.group=true∧s.inner=0) then .error 2 else .ok {s with group:=!s.group,inner:=0})
 else if s.text=[] then (if s.words.length=20000 then .error 6 else DV {s with a:=i} c)
 else DV s c
def nz:ar→Nat→je→Except (Nat×Nat) je
 |[],_,s=>.ok s
 |c::r,i,s=>match w6 s c i with
  |.error e=>.error (i,e)
  |.ok s'=>nz r (i+1) s'
def ta(s:ar):List eR×Nat×Nat:=
 if 1000000<s.length then ([],0,6) else match nz s 0 w5 with
  |.error (i,e)=>([],i,e)
  |.ok st=>if st.text≠[]∨st.group=true then ([],s.length,2) else (st.words,0,0)
structure dN where
 k:Int
 n:Int
 t:List UInt8
 args:List (List (Int×Int))
deriving DecidableEq
def cH:dN:=⟨0,0,[],[]⟩
def vM(s:ar):Option (List UInt8×List UInt8):=if bK s=0∨s.headD 0=48 then none else some (s.take (bK s),s.drop (bK s))
def DW(s:ar):Except Nat dN:=match vM s with
 |none=>.error 3
 |some (d,r)=>if 2<d.length∨r.headD 0≠61 then .error 3 else match uu (r.drop 1) with
  |(l,_,e)=>if e≠0 then .error e else .ok ⟨2,val d,[],[l]⟩
def rk(d:ar):Int:=if d=[49] then 1 else if d=[52] then 4 else if d=[55] then 7 else if d=[50,48] then 20 else if d=[50,49] then 21 else 0
def eJ(c:UInt8)(s:ar):List UInt8×List UInt8×Bool:=
 if (s.takeWhile (· !=c)).length<s.length then (s.takeWhile (· !=c),s.drop ((s.takeWhile (· !=c)).length+1),true) else (s,[],false)
def lQ(n:Int)(k:Nat):Bool:=
 if n=1 then decide (k=4)|| decide (k=5) else if n=20 then decide (k=7) else if n=21∨n=7 then decide (k=6) else if n=4 then decide (k%2=1)&&(decide (7≤k)&&decide (k≤1100)) else false
def vN:Nat→ar→List (List (Int×Int))→Except Nat (List (List (Int×Int)))
 |0,_,acc=>.ok acc
 |f+1,s,acc=>if acc.length=1100 then .error 6 else match uu (eJ 44 s).1 with
  |(l,_,e)=>if e≠0 then .error e else if (eJ 44 s).2.2=true then vN f (eJ 44 s).2.1 (acc++[l]) else .ok (acc++[l])
def tb(s:ar):Except Nat dN:=match vM s with
 |none=>.error 3
 |some (d,r)=>if r.headD 0≠44 then .error 3 else if rk d=0 then .error 8 else match vN (r.length+1) (r.drop 1) [] with
  |.error e=>.error e
  |.ok l=>if lQ (rk d) l.length=true then .ok ⟨3,rk d,[],l⟩ else .error 3
def w7(s:ar):Except Nat dN:=
 if s=[48] then .ok {cH with k:=1} else if s.take 2=[48,32] then .ok {cH with k:=1,t:=s.drop 2} else if s.headD 0=36 then DW (s.drop 1) else tb s
def w8:List (List UInt8)→Nat→List dN→Except (Nat×Nat) (List dN)
 |[],_,acc=>.ok acc
 |s::l,i,acc=>match w7 s with
  |.error e=>.error (i,e)
  |.ok b=>w8 l (i+1) (acc++[b])
def yH(l:List (List UInt8)):List dN×Nat×Nat:=if 500<l.length then ([],0,6) else match w8 l 0 [] with
 |.error (i,e)=>([],i,e)
 |.ok b=>(b,0,0)
structure C where
 k:Int
 n:Int
 m:Int
 on:Bool
 t:List UInt8
 x:List UInt8
 y:List UInt8
 i:List UInt8
 j:List UInt8
 bX:List Int
 blocks:List dN
deriving DecidableEq
def aV:C:=⟨0,0,0,false,[],[],[],[],[],[],[]⟩
def dD(k:Int):C:={aV with k:=k}
def Ae(t:ar):Option Nat:=if t.length<1∨4<t.length∨bK t≠t.length then none else some (val t)
def tc(t:ar):Option Nat:=if t.length<2∨t.headD 0=48 then none else Ae t
def NC(c:UInt8):Bool:=(decide (97≤c.toNat)&&decide (c.toNat≤122))||(decide (65≤c.toNat)&&decide (c.toNat≤90))|| c==95 || c==46 || c==36
def RN(c:UInt8):Bool:=fi c || c==45
def td(t:ar):Bool:=decide (1≤t.length)&&(decide (t.length≤100)&&(NC (t.headD 0)&&(t.drop 1).all fun c=>NC c || RN c))
def vO(r:ar):Nat:=if r≠[]∧(r.headD 0=43∨r.headD 0=45) then 1 else 0
def nA(t:ar)(c:UInt8):List UInt8×List UInt8:=
 if t≠ []∧t.headD 0=c then (
  if bK ((t.drop 1).drop (vO (t.drop 1)))<1∨12<bK ((t.drop 1).drop (vO (t.drop 1))) then ([],t)
  else ((t.drop 1).take (vO (t.drop 1)+bK ((t.drop 1).drop (vO (t.drop 1)))),(t.drop 1).drop (vO (t.drop 1)+bK ((t.drop 1).drop (vO (t.drop 1))))))
 else ([],t)
def vP(t:ar):Int:=if t=[68,48,49] then 1 else if t=[68,48,50] then 2 else if t=[68,48,51] then 3 else 0
def iT(t:ar):Option C:=
 let x:=nA t 88;let y:=nA x.2 89;let i:=nA y.2 73;let j:=nA i.2 74
 if vP j.2=0 then none else some {dD 7 with n:=vP j.2,x:=x.1,y:=y.1,i:=i.1,j:=j.1}
def pr(t:ar)(cs:List C):Except Nat (List C):=
 match (if t≠[]∧t.headD 0=68∧cs=[] then tc (t.drop 1) else none) with
 |some n=>.ok [{dD 6 with n:=n}]
 |none=>match iT t with
  |none=>.error 3
  |some c=>.ok (cs++[c])
def qw(t:ar)(n:Int):Except Nat (List C):=if t.drop 3=[] then .ok [{dD 2 with n:=n}] else pr (t.drop 3) [{dD 2 with n:=n}]
def vQ(t:ar):Except Nat (List C):=
 if t=[71,51,54] then .ok [{dD 3 with on:=true}]
 else if t=[71,51,55] then .ok [dD 3]
 else if t=[71,55,52] then .error 8
 else if t=[71,55,53] then .ok [dD 4]
 else if t=[77,48,50] then .ok [dD 5]
 else if t.take 3=[71,48,52] then .ok [{dD 1 with t:=t.drop 3}]
 else if t.take 3=[71,48,49] then qw t 1
 else if t.take 3=[71,48,50] then qw t 2
 else if t.take 3=[71,48,51] then qw t 3
 else pr t []
def w9:List (List UInt8×C):=
 [([77,79,77,77],{dD 9 with n:=1}),([77,79,73,78],{dD 9 with n:=2}),([65,66],dD 12),([83,82],dD 14),([76,80,68],{dD 15 with on:=true}),([76,80,67],dD 15),([76,77,78],dD 16),([76,77,88],{dD 16 with n:=1}),([76,77,89],{dD 16 with n:=2}),([76,77,88,89],{dD 16 with n:=3})]
def Gs(t:ar):Option C:=
 if t.length≠8∨(t.headD 0≠76∧t.headD 0≠84)∨(t.drop 1).take 2≠[65,88]∨bK (t.drop 3)≠2∨(t.drop 5).headD 0≠89∨t.drop 6≠(t.drop 3).take 2 then none
 else some {dD 8 with on:=decide (t.headD 0=84),n:=(((t.drop 3).headD 0).toNat:Int)-48,m:=(((t.drop 4).headD 0).toNat:Int)-48}
def vR:Nat→ar→List Int→Option (List Int)
 |0,_,acc=>some acc
 |f+1,s,acc=>match dec (eJ 88 s).1 with
  |none=>none
  |some v=>if (eJ 88 s).2.2=true then vR f (eJ 88 s).2.1 (acc++[v]) else some (acc++[v])
def mn(t:ar):Option C:=
 if t.headD 0≠68 then none else match BN (t.drop 1) with
  |none=>none
  |some (n,r)=>if td (eJ 44 r).1=false then none else if (eJ 44 r).2.2=false then some {dD 10 with n:=n,t:=(eJ 44 r).1} else
   (match vR (r.length+1) (eJ 44 r).2.1 [] with
    |none=>none
    |some l=>some {dD 10 with n:=n,t:=(eJ 44 r).1,bX:=l})
where BN (r:ar):Option (Nat×List UInt8):=match tc (r.take (bK r)) with
 |none=>none
 |some n=>some (n,r.drop (bK r))
def Gt(t:ar):Option C:=if t.headD 0≠68 then none else match tc (t.drop 1) with
 |none=>none
 |some n=>some {dD 11 with n:=n}
def stepG(t:ar):Option C:=
 if t.headD 0≠88 then none else
 match Ae (eJ 89 (t.drop 1)).1,Ae (eJ 73 (eJ 89 (t.drop 1)).2.1).1,dec (eJ 74 (eJ 73 (eJ 89 (t.drop 1)).2.1).2.1).1,dec (eJ 74 (eJ 73 (eJ 89 (t.drop 1)).2.1).2.1).2.1 with
 |some n,some m,some x,some y=>some {dD 13 with n:=n,m:=m,bX:=[x,y]}
 |_,_,_,_=>none
def ND(t:ar):Option C:=match dec t with
 |none=>none
 |some v=>some {dD 17 with bX:=[v]}
def xa(t:ar):Option C:=
 if t.take 2=[70,83] then Gs (t.drop 2) else if t.take 2=[65,68] then mn (t.drop 2) else if t.take 2=[65,66] then Gt (t.drop 2) else if t.take 2=[83,82] then stepG (t.drop 2) else if t.take 2=[76,82] then ND (t.drop 2)
 else if t.take 2=[84,70]∨t.take 2=[84,65]∨t.take 2=[84,79]∨t.take 2=[84,68] then some {dD 18 with t:=t} else none
def te(t:ar):Except Nat C:=
 if t.take 2=[76,83] then .error 8 else match w9.lookup t with
  |some c=>.ok c
  |none=>match xa t with
   |none=>.error 3
   |some c=>.ok c
def yI(w:eR)(ws:List eR):Except (Nat×Nat) (List C):=
 if w.t.take 2≠ [65,77] then (match te w.t with
  |.error e=>.error (w.a,e)
  |.ok c=>match ws with
   |[]=>.ok [c]
   |x::_=>.error (x.a,3))
 else if td (w.t.drop 2)=false then .error (w.a,3)
 else match yH (ws.map eR.t) with
  |(b,i,e)=>if e≠0 then .error (((ws.map eR.a)[i]?).getD 0,e) else .ok [{dD 19 with t:=w.t.drop 2,blocks:=b}]
def r4(w:eR)(ws:List eR):Except (Nat×Nat) (List C):=
 if w.ext=true then yI w ws else match vQ w.t with
  |.error e=>.error (w.a,e)
  |.ok l=>.ok l
def p3:Nat→List eR→List (Nat×C)→Except (Nat×Nat) (List (Nat×C))
 |0,_,acc=>.ok acc
 |_+1,[],acc=>.ok acc
 |f+1,w::ws,acc=>match r4 w (ws.takeWhile fun x=>!x.first) with
  |.error e=>.error e
  |.ok l=>p3 f (ws.dropWhile fun x=>!x.first) (acc++l.map fun c=>(w.a,c))
def k0(s:ar):List (Nat×C)× Nat×Nat:=match ta s with
 |(ws,i,e)=>if e≠0 then ([],i,e) else match p3 ws.length ws [] with
  |.error (i,e)=>([],i,e)
  |.ok l=>(l,0,0)
theorem X7(c:UInt8)(r:ar)(i:Nat)(s:je):nz (c::r) i s=match w6 s c i with|.error e=>.error (i,e)|.ok s'=>nz r (i+1) s':=rfl
theorem go_append:∀(s t:ar) (i:Nat) (st:je),nz (s++t) i st=match nz s i st with|.error x=>.error x|.ok dh=>nz t (i+s.length) dh
 |[],t,i,st=>by simp[nz]
 |c::s,t,i,st=>by
  rw[w3,X7,X7];cases h:w6 st c i with
  |error e=>rfl
  |ok dh=>
   simp only[];rw[go_append s t (i+1) dh,eT,show i+1+s.length=i+(s.length+1) by omega]
def base(ws:List eR)(a:Nat):je:=⟨ws,[],a,false,0⟩
def Gu(s:ar):Prop:=∀i a ws,ws.length+s.count 42<20000→(∃x,nz s i (base ws a)=.error x)∨∃X8 k1,nz s i (base ws a)=.ok (base X8 k1)∧X8.length≤ws.length+s.count 42
theorem Gu.nil:Gu []:=fun i a ws _=>.inr ⟨ws,a,rfl,aP _⟩
theorem Gu.append{s t:ar}(hs:Gu s)(bc:Gu t):Gu (s++t):=by
 intro i a ws h;rw[List.count_append] at h;rw[go_append];rcases hs i a ws (by omega) with ⟨x,e⟩|⟨ahy,ew,e,au⟩
 ·rw[e];exact .inl ⟨x,rfl⟩
 ·rw[e];simp only[];rcases bc (i+s.length) ew ahy (by omega) with ⟨x,a6⟩|⟨ahz,a2,a6,ax⟩
  ·exact .inl ⟨x,a6⟩
  ·exact .inr ⟨ahz,a2,a6,by rw[List.count_append];omega⟩
def wc(c:UInt8):Bool:=decide (32≤c.toNat)&&(decide (c.toNat≤126)&&(c !=42 &&c !=37))
end cB
namespace cB
open ga
open ph (uu ds)
theorem X9(f:Nat)(acc:List (Nat×C)):p3 f [] acc=.ok acc:=by cases f<;>rfl
end cB
namespace ef
open mm (fW)
open Fr (kF jT BM)
open cB (dN lQ)
def mY(p:b7)(r:Int):dK:={fN with k:=1,a:=p,r:=r}
def uA(p q:b7)(r:Int):dK:={fN with k:=3,a:=p,b:=q,r:=r}
def mZ(l:List (List b7)):dK:={fN with k:=2,l:=l}
def iG:dK:={fN with k:=6}
def nB(b:dK):dq:=⟨b,.nil⟩
def xb(c:b7)(w h:Int):List b7:=[(c.1-w,c.2-h),(c.1+w,c.2-h),(c.1+w,c.2+h),(c.1-w,c.2+h)]
def kG(n d u:Int):Int×Nat:=
 if (kF 3 n d 0 1).2.2≠0 then (0,5)
 else if u≠1∧u≠2 then (0,5)
 else if (n *(if u=1 then 10000000 else 254000000)).tmod d≠0 then (0,7)
 else if (n *(if u=1 then 10000000 else 254000000)).tdiv d< -536870912∨536870912<(n *(if u=1 then 10000000 else 254000000)).tdiv d then (0,5)
 else ((n *(if u=1 then 10000000 else 254000000)).tdiv d,0)
structure kH where
 v:List (Int×Int)
 e:Nat
def kH.fail(t:kH)(e:Nat):kH:=if t.e=0 then {t with e:=e} else t
def kH.next(t:kH):(Int×Int)× kH:=(t.v.headD (0,0),{t with v:=t.v.drop 1})
def kH.len(t:kH)(u:Int):Int×kH:=((kG t.next.1.1 t.next.1.2 u).1,t.next.2.fail (kG t.next.1.1 t.next.1.2 u).2)
def kH.uB(t:kH)(u:Int):b7×kH:=(((t.len u).1,((t.len u).2.len u).1),((t.len u).2.len u).2)
def kH.half(t:kH)(u:Int):Int×kH:=
 let g:=(t.len u).1;let t1:=if g<0 then (t.len u).2.fail 4 else (t.len u).2
 (g.tdiv 2,if g.tmod 2≠0 then t1.fail 7 else t1)
def kH.RO(t:kH):gj×kH:=
 if t.v=[] then (mX,t) else
 ({mX with q:=(t.next.1.1.tdiv 90).tmod 4},if t.next.1.2≠1∨t.next.1.1.tmod 90≠0 then t.next.2.fail 7 else t.next.2)
def kH.nC(u:Int):Nat→kH→List b7×kH
 |0,t=>([],t)
 |n+1,t=>((t.uB u).1::(kH.nC u n (t.uB u).2).1,(kH.nC u n (t.uB u).2).2)
def kH.ahA(t:kH)(k u:Int)(n:Nat):dq×Bool×kH:=
 if k=1 then
  let (r,t):=t.half u;let (c,t):=t.uB u
  (nB (mY c r),decide (0<r),t)
 else if k=20 then
  let (r,t):=t.half u;let (a,t):=t.uB u;let (b,t):=t.uB u
  (nB {fN with k:=4,a:=a,b:=b,r:=r},decide (0<r)&&decide (a≠b),t)
 else if k=21 then
  let (w,t):=t.half u;let (h,t):=t.half u;let (c,t):=t.uB u
  (nB (mZ [xb c w h]),decide (0<w)&&decide (0<h),t)
 else if k=4 then
  let v:=t.next.1;let t:=if v.2≠1∨v.1<1∨500<v.1∨2 *v.1+5≠(n:Int) then t.next.2.fail 4 else t.next.2
  let (l,t):=kH.nC u ((n-3)/ 2) t
  (nB (mZ [l.dropLast]),true,if l.getLast?≠l.head? then t.fail 4 else t)
 else if k=7 then
  let (c,t):=t.uB u;let (o,t):=t.half u;let (i,t):=t.half u;let (g,t):=t.half u;let t:=if o≤i∨o≤g then t.fail 4 else t
  (⟨iG,.cons true (mY c o) .nil
   ((if 0<i then bf.cons false (mY c i) .nil .nil else .nil).append
   (if 0<g then .cons false (mZ [xb c o g]) .nil (.cons false (mZ [xb c g o]) .nil .nil) else .nil))⟩,true,t)
 else (RC,true,t)
def NF(k u:Int)(v:List (Int×Int)):bf×Nat:=
 let t:kH:=⟨v,0⟩;let add:=if k≠7 then decide (t.next.1.1=1) else true
 let t:=if k≠7 then (if t.next.1.2≠1∨(t.next.1.1≠0∧t.next.1.1≠1) then t.next.2.fail 4 else t.next.2) else t
 let p:=t.ahA k u v.length;let s:=p.2.2.RO
 if s.2.e≠0∨p.2.1=false then (.nil,s.2.e) else match ri s.1 p.1 with
  |none=>(.nil,5)
  |some m=>(.one add m,0)
def X'(vars:List (Int×Int)):List (List (Int×Int))→Except Nat (List (Int×Int))
 |[]=>.ok []
 |a::l=>if (BM vars a).2.2≠0 then .error (BM vars a).2.2 else match X' vars l with
  |.error e=>.error e
  |.ok r=>.ok (((BM vars a).1,(BM vars a).2.1)::r)
def ahB(b:dN):Bool:=
 if b.k=1 then decide (b.n=0)&&decide (b.args.length=0)
 else if b.k=2 then decide (1≤b.n)&&(decide (b.n≤99)&&decide (b.args.length=1))
 else if b.k=3 then lQ b.n b.args.length
 else false
def NG(u:Int):List dN→List (Int×Int)→bf→Except Nat bf
 |[],_,p=>.ok p
 |b::l,vars,p=>match X' vars b.args with
  |.error e=>.error e
  |.ok v=>if b.k=2 then NG u l (vars.set (b.n.toNat-1) (v.headD (0,0))) p
   else if b.k=3 then (if (NF b.n u v).2≠0 then .error (NF b.n u v).2 else if 900<(p.append (NF b.n u v).1).count+1 then .error 6 else NG u l vars (p.append (NF b.n u v).1))
   else NG u l vars p
def ahC(l:List dN)(args:List (Int×Int))(u:Int):Except Nat dq:=
 if 500<l.length∨l.all ahB=false then .error 3 else match NG u l ((args++List.replicate (99-args.length) (0,1)).take 99) .nil with
  |.error e=>.error e
  |.ok p=>.ok ⟨iG,p⟩
structure mo where
 name:List UInt8
 b:List dN
def r5(s:Nat)(u:Int):List Int→Nat→Except Nat (List Int)
 |[],_=>.ok []
 |n::l,i=>match fW n u with
  |none=>.error 5
  |some g=>if g<0∨(g=0∧s=2∧i<s) then .error 4 else if g.tmod 2≠0 then .error 7 else match r5 s u l (i+1) with
   |.error e=>.error e
   |.ok r=>.ok (g.tdiv 2::r)
def Ya:List Int→Except Nat (List (Int×Int))
 |[]=>.ok []
 |n::l=>if (jT n 1000000).2.2≠0 then .error (jT n 1000000).2.2 else match Ya l with
  |.error e=>.error e
  |.ok r=>.ok (((jT n 1000000).1,(jT n 1000000).2.1)::r)
def ahD(name:ar)(ms:List mo):Option mo:=ms.reverse.find? fun m=>m.name==name
def ahE(name:ar)(bX:List Int)(u:Int)(ms:List mo):Except Nat (dq×Int):=match ahD name ms with
 |none=>.error 4
 |some m=>match Ya bX with
  |.error e=>.error e
  |.ok a=>match ahC m.b a u with
   |.error e=>.error e
   |.ok s=>.ok (s,0)
def Jy(r:Int):dK:=if r=0 then iG else mY (0,0) r
def RP(w h:Int):dK:=mZ [[(-w,-h),(w,-h),(w,h),(-w,h)]]
def Gv(w h:Int):dK:=if h<w then uA (h-w,0) (w-h,0) h else if w<h then uA (0,w-h) (0,h-w) w else mY (0,0) w
def BO(b:dK)(h:Int):dq:=if 0<h then⟨iG,.cons true b .nil (.cons false (mY (0,0) h) .nil .nil)⟩ else nB b
def vS(name:ar)(bX:List Int)(u:Int)(ms:List mo):Except Nat (dq×Int):=
 if name=[67]∨name=[82]∨name=[79] then
  let s:=if name=[67] then 1 else 2
  if bX.length≠s∧bX.length≠s+1 then .error 4 else match r5 s u bX 0 with
   |.error e=>.error e
   |.ok h=>let g:=fun i=>h.getD i 0
    if name=[67] then .ok (BO (Jy (g 0)) (g 1),if g 1=0 then g 0 else 0)
    else if name=[82] then .ok (BO (RP (g 0) (g 1)) (g 2),0)
    else .ok (BO (Gv (g 0) (g 1)) (g 2),0)
 else ahE name bX u ms
end ef
namespace ef
open mm (fW kk s9)
open cB (dN C k0)
abbrev iH:=Bool×dq
structure vT where
 bq:dq
 r:Int
 round:Bool
 block:Bool
 eg:List iH
structure nD where
 step:Bool
 code:Int
 n:Int
 m:Int
 eI:b7
 eg:List iH
def j8:nD:=⟨false,0,0,0,(0,0),[]⟩
structure cy where
 unit:Int
 kI:Int
 fd:Int
 kJ:Bool
 formed:Bool
 jC:Int→Option vT
 pt:Int
 gM:List mo
 at_:b7
 mode:Int
 DX:Bool
 fe:Bool
 cz:gj
 region:Bool
 bQ:List (List b7)
 top:nD
 levels:List nD
 made:Int
 budget:Int
 ended:Bool
def rl(b:Int):cy:=⟨0,0,0,false,false,fun _=>none,0,[],(0,0),1,false,true,mX,false,[],j8,[],0,min (max b 0) 100000,false⟩
def iv(p:cy)(fe:Bool)(s:dq):Except Nat cy:=
 if okV s=false then .error 5 else if p.budget≤p.made then .error 6 else .ok {p with made:=p.made+1,top:={p.top with eg:=p.top.eg++[(fe,s)]}}
def jU(p:cy)(fe:Bool)(s:dq)(t:gj):Except Nat cy:=match ri t s with
 |none=>.error 5
 |some m=>iv p fe m
def mq(f:Bool→Bool)(t:gj):List iH→cy→Except Nat cy
 |[],p=>.ok p
 |o::l,p=>match jU p (f o.1) o.2 t with
  |.error e=>.error e
  |.ok q=>mq f t l q
def BP(p:cy)(code:Int):Bool:=(p.jC code).isSome ||(p.top::p.levels).dropLast.any fun v=>!v.step&&decide (v.code=code)
def tf(l:List (List b7)):Bool:=match l.getLast? with
 |none=>true
 |some c=>decide (4≤c.length)&&decide (c.head?=c.getLast?)
def DY(p:cy):Except Nat cy:=
 if tf p.bQ=false then .error 4
 else if 1000<((p.bQ.map List.dropLast).map List.length).sum then .error 6
 else if p.bQ=[] then .ok {p with bQ:=[]}
 else iv {p with bQ:=[]} p.fe (nB (mZ (p.bQ.map List.dropLast)))
def Af(p:cy)(xc:b7):Except Nat cy:=
 if p.region=false then .ok p else if tf p.bQ=false then .error 4 else .ok {p with bQ:=p.bQ++[[xc]]}
def xd(p:cy)(xc:b7):Except Nat cy:=match p.jC p.pt with
 |none=>.error 4
 |some a=>if p.region=true then .error 4 else if a.block=false then jU p p.fe a.bq {p.cz with eI:=xc} else mq (fun d=>decide (d=p.fe)) {p.cz with eI:=xc} a.eg p
def mr(l:List (List b7))(q:b7):List (List b7):=l.dropLast++[l.getLastD [] ++[q]]
def yJ(p:cy)(c:C)(xc mid:b7):Except Nat cy:=
 if p.mode≠1∧p.region=true then .error 8
 else if p.mode≠1∧p.DX=false then .error 4
 else if p.mode=1∧(c.i≠[]∨c.j≠[]) then .error 4
 else if p.region=true then (if p.bQ=[] then .error 4 else .ok {p with bQ:=mr p.bQ xc})
 else match p.jC p.pt with
  |none=>.error 4
  |some a=>if a.round=false then .error 4
   else if p.mode=1 then (if a.r=0 then .ok p else iv p p.fe (nB (uA p.at_ xc a.r)))
   else
    let x:=if p.mode=2 then xc else p.at_
    let y:=if p.mode=2 then p.at_ else xc
    let z:b7:=(p.at_.1+mid.1,p.at_.2+mid.2)
    if Ab z x y=false then .error 9 else if a.r=0 then .ok p else iv p p.fe (nB {fN with k:=5,a:=x,b:=y,c:=z,r:=a.r})
def j9(p:cy)(s:ar)(was:Int):Option Int:=if s=[] then some was else kk s p.unit p.kI p.fd p.kJ
def xe(p:cy)(c:C):Except Nat cy:=
 if p.unit=0∨p.formed=false then .error 4 else match j9 p c.x p.at_.1 with
 |none=>.error 5
 |some x=>match j9 p c.y p.at_.2 with
  |none=>.error 5
  |some y=>match j9 p c.i 0 with
   |none=>.error 5
   |some i=>match j9 p c.j 0 with
    |none=>.error 5
    |some j=>match (if c.n=1 then yJ p c (x,y) (i,j) else if c.n=2 then Af p (x,y) else if c.n=3 then xd p (x,y) else .error 4) with
     |.error e=>.error e
     |.ok q=>.ok {q with at_:=(x,y)}
def jB(c:C)(i:Nat):Int:=c.bX.getD i 0
def mn(p:cy)(c:C):Except Nat cy:=
 if p.unit=0∨BP p c.n=true then .error 4 else match vS c.t c.bX p.unit p.gM with
  |.error e=>.error e
  |.ok (s,r)=>.ok {p with jC:=fun j=>if j=c.n then some ⟨s,r,decide (c.t=[67])&&(decide (c.bX.length=1)|| decide (c.bX.getD 1 0=0)),false,[]⟩ else p.jC j}
def Jz(p:cy)(c:C):Except Nat cy:=
 if c.k=8 then (if p.formed=true∨s9 1 c.n c.m=false then .error 4 else .ok {p with kI:=c.n,fd:=c.m,kJ:=c.on,formed:=true})
 else if c.k=9 then (if p.unit≠0 then .error 4 else .ok {p with unit:=c.n})
 else if c.k=19 then (if p.gM.any (fun m=>m.name==c.t)=true then .error 4 else .ok {p with gM:=p.gM++[⟨c.t,c.blocks⟩]})
 else mn p c
def JA(p:cy)(c:C):Except Nat cy:=
 if c.k=2 then .ok {p with mode:=c.n}
 else if c.k=4 then .ok {p with DX:=true}
 else if c.k=6 then (if (p.jC c.n).isSome=false then .error 4 else .ok {p with pt:=c.n})
 else if c.k=15 then .ok {p with fe:=c.on}
 else if c.k=16 then .ok {p with cz:={p.cz with bx:=decide (c.n=1)|| decide (c.n=3),bO:=decide (c.n=2)|| decide (c.n=3)}}
 else if (jB c 0).tmod 90000000≠0 then .error 7 else .ok {p with cz:={p.cz with q:=((jB c 0).tdiv 90000000).tmod 4}}
end ef
namespace c1
open Go.RowKit ef
def yK:List (List b7)→Int→Bool
 |[],_=>true
 |c::l,left=>if left<(c.length:Int) then false else c.all gU&&yK l (left-c.length)
theorem ahF(l:List (List b7)):∀n:Int,0≤n→yK l n=(decide (((l.map List.length).sum:Int)≤n)&&l.all fun c=>c.all gU):=by
 induction l with
 |nil=>intro n hn;simp[yK,hn]
 |cons c l cU=>
  intro n hn;unfold yK;by_cases h:n<(c.length:Int)
  ·rw[aW h];have ax:¬((((c::l).map List.length).sum:Nat):Int)≤n:=(by simp only[nx,RF];omega);rw[fJ ax,Gq]
  ·rw[aN h,cU _ (by omega)];have ax:decide ((((c::l).map List.length).sum:Nat)≤n)=decide ((((l.map List.length).sum:Nat):Int)≤n-c.length):=(by apply decide_eq_decide.2;simp only[nx,RF];omega);rw[ax,List.all_cons];cases c.all gU<;>simp
theorem ahG(l:List (List b7)):Gl l=yK l 1000:=by
 rw[ahF _ _ (by decide)];unfold Gl
 congr 1
 apply decide_eq_decide.2;omega
theorem gV.at{S:afp}{w:aeo}{p:Ja}{l:List b7}(h:gV S w p l){i:Nat}(hi:i<l.length){q:b7}(aG:l[i]=q):∃b o,p=some ⟨b,o,none⟩∧ak w b (o+i *2) (I q.1)∧ak w b (o+i *2+1) (I q.2):=by obtain⟨b,o,cs,rfl,_,aE,aB⟩:=h.2 (by omega);obtain⟨au,ax⟩:=aB i hi;rw[aG] at au ax;exact⟨b,o,rfl,by simp[World.cell?,aE,au],by simp[World.cell?,aE,ax]⟩
theorem iS.at{S:afp}{w:aeo}{p:Ja}{l:List (List b7)}(h:iS S w p l){i:Nat}(hi:i<l.length){r:List b7}(hr:l[i]=r):∃b o q c,p=some ⟨b,o,none⟩∧ak w b (o+i) (ad q r.length c)∧r.length≤c∧gV S w q r:=by obtain⟨b,o,cs,rfl,_,aE,aB⟩:=h.2 (by omega);obtain⟨q,c,au,ax,aA⟩:=aB i hi;rw[hr] at au ax aA;exact⟨b,o,q,c,rfl,by simp[World.cell?,aE,au],ax,aA⟩
theorem ahH(S:afp)(p:Ja)(l:List (List b7))(n c:Nat)(hn:n=l.length)(w:aeo)(H:af (iS S w p l))(b:Bool)(ay:af (Gl l=b)):
  Calls Tryz.prog 204 #[ad p n c] w fun e w'=>e=ab (U b)∧an w w w':=by
 have pv:n≤1000000000:=by rw[hn];exact H.out.1
 have bd:=ao hn;have tg:af (yK (l.drop 0) 1000=b):=by show _=_;rw[←ay.out,ahG];rfl
 clear ay hn;go_enter Tryz.func204,Tryz.ntmps204;go_wp2_with fail
 go_loopw [3,10] (fun Nr i wr=>∃(j:Nat) (left:Int) (aL:aeo),aL=wr∧j≤n∧0≤left∧left≤1000∧af (yK (l.drop j) left=b)∧Nr=I left∧i=I j∧af (an w w aL)) (fun _ i _=>n -(intOf i).toNat)
 case atStart=>exact⟨0,1000,_,rfl,cO _,by decide,by decide,tg.out,rfl,rfl,Below.refl _ _⟩
 case round=>
 obtain⟨j,left,aL,rfl,b6,NH,lq,kK,rfl,rfl,aH⟩:=hrel;by_cases bm:j<n
 ·have gD:j<l.length:=(by rw[←bd.out];exact bm);have fD:(j:Int)<(n:Int):=(by omega);obtain⟨r,hr⟩:=aq (l[j]);obtain⟨mu,o,q,jD,rfl,lR,_,qx⟩:=(H.out.below aH.out).at gD hr;have bw:=ao qx;have DZ:r.length≤1000000000:=qx.1;have uC:af ((if left<(r.length:Int) then false else r.all gU&&yK (l.drop (j+1)) (left-r.length))=b):=(by show _=_;rw[←kK.out,rZ gD,hr];rfl);obtain⟨m,hm⟩:=aq r.length;have bN:=ao hm;rw[hm] at lR uC DZ;clear qx hr kK hm;by_cases hle:left<(m:Int)
  ·have aJ:af (false=b):=(by show _=_;rw[←uC.out,aW hle]);go_wp2_with fail;go_ret;exact⟨h1 aJ.out,aH.out⟩
  ·have NI:af ((r.all gU&&yK (l.drop (j+1)) (left-m))=b):=(by show _=_;rw[←uC.out,aN hle]);clear uC;have Yb:(m:Int)≤left:=(by omega);have hw:ae (left -(m:Int))=left -(m:Int):=gw _ (by omega);go_wp2_with fail;have dY:=ao (aH.out)
   go_loopw [24] (fun i cq=>∃(k:Nat) (d':aeo),d'=cq∧k≤m∧af ((r.drop k).all gU=r.all gU)∧i=I k∧af (an aL aL d')) (fun i _=>m -(intOf i).toNat)
   case atStart=>exact⟨0,_,rfl,cO _,rfl,rfl,Below.refl _ _⟩
   case round=>
   obtain⟨k,d',rfl,aw,en,rfl,aU⟩:=hrel;by_cases kL:k<m
   ·have Gw:k<r.length:=(by rw[bN.out];exact kL);have ahI:(k:Int)<(m:Int):=(by omega);obtain⟨z,bP⟩:=aq (r[k]);obtain⟨dz,gd,rfl,s0,s1⟩:=(bw.out.below aU.out).at Gw bP;obtain⟨kl,km⟩:=z;have xf:af ((r.drop k).all gU=(gU (kl,km)&&(r.drop (k+1)).all gU)):=(by show _=_;rw[rZ Gw,bP];rfl);clear bP;obtain⟨f,hf⟩:=aq (gU (kl,km));have RQ:=ao hf;clear hf;go_wp2_with fail;refine (uy (kl,km) _).mono ?_;rintro e bk ⟨rfl,rfl⟩;have iU:af (an aL aL ((d'.alloc (j7 (kl,km))).alloc (j7 (kl,km)))):=(aU.out.alloc aU.out.size _).alloc (by have:=aU.out.size;simp;omega) _;rw[RQ.out];generalize (d'.alloc (j7 (kl,km))).alloc (j7 (kl,km))=bt at iU⊢;cases f with
    |true=>
     have gW:af ((r.drop (k+1)).all gU=r.all gU):=(by show _=_;rw[←en.out,xf.out,RQ.out,Gp]);go_wp2_with fail;go_round<;>first|exact⟨k+1,_,rfl,by omega,gW.out,by go_num,iU.out⟩|(simp[intOf]<;>omega)
    |false=>
     have aJ:af (false=b):=(by show _=_;rw[←NI.out,←en.out,xf.out,RQ.out,Gq,Gq]);go_wp2_with fail;go_ret;exact⟨h1 aJ.out,aH.out.trans (iU.out.mono aH.out.size)⟩
   ·have Gx:k=m:=(by omega);have bn:af (yK (l.drop (j+1)) (left-m)=b):=(by show _=_;have au:=en.out;rw[Ac (by have:=bN.out;omega)] at au;rw[←NI.out,←au];rfl);subst Gx;go_wp2_with fail;go_round<;>first|exact⟨j+1,left-k,_,rfl,by omega,by omega,by omega,bn.out,by go_num,by go_num,aH.out.trans (aU.out.mono aH.out.size)⟩|(simp[intOf]<;>omega)
 ·have kM:j=n:=(by omega);have dr:af (true=b):=(by show _=_;rw[←kK.out,Ac (by rw[←bd.out];omega)];rfl);subst kM;go_wp2_with fail;go_ret;exact⟨h1 dr.out,aH.out⟩
end c1
