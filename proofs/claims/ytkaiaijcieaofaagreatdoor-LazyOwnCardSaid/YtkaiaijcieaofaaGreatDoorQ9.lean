/- Lemmas. -/
import Derived.Test.YtkaiaijcieaofaaGreatDoorQ8
set_option linter.all false
set_option maxRecDepth 100000
set_option maxHeartbeats 1600000
namespace Go.Proofs.YtkaiaijcieaofaaGreatDoor
abbrev Ck:=@Int.natAbs_mul
abbrev Cl:=@Int.natAbs_natCast
abbrev ED:=@Proofs.Tryz.func116
abbrev EE:=@Proofs.Tryz.ntmps116
abbrev Kw:=@Proofs.Tryz.func126
abbrev Kx:=@Proofs.Tryz.ntmps126
abbrev Cm:=@Int.natCast_nonneg
namespace rC
open ga qe
open mm (fW)
structure kT where
 k:Int
 a7:Int
 a':Int
 aX:Int
 a8:Int
 cx:Int
 bA:Int
 r:Int
deriving DecidableEq
def xL(x y r:Int):kT:=⟨1,x,y,0,0,0,0,r⟩
def tJ(x y p q r:Int):kT:=⟨3,x,y,p,q,0,0,r⟩
def ot(x y:Int):Bool:=decide (-536870912≤x)&&(decide (x≤536870912)&&(decide (-536870912≤y)&&decide (y≤536870912)))
def wide(r:Int):Bool:=decide (1≤r)&&decide (r≤536870912)
structure M where
 bq:List kT
 budget:Int
 lE:Int
 u:Int
 i:Int
 d:Int
 t:Bool
 fK:Int→Option Int
 hW:Int
 x:Int
 y:Int
 gA:Bool
 down:Bool
 hit:Bool
def m0(b:Int):M:=⟨[],max 0 (min b 100000),0,0,0,0,false,fun _=>none,0,0,0,false,false,false⟩
def AH(m:M)(s:ar):Option Int:=
 if s.contains 46=true then (match dec s with
  |none=>none
  |some n=>fW n m.u) else mm.kk s m.u m.i m.d m.t
def fI(m:M)(x y:ar)(gm gn:Int):Option (Int×Int):=
 match (if x=[] then some gm else AH m x) with
 |none=>none
 |some a=>match (if y=[] then some gn else AH m y) with
  |none=>none
  |some b=>some (a,b)
def AI(s:kT):Bool:=if s.k=1 then ot s.a7 s.a'&&wide s.r else ot s.a7 s.a'&&(ot s.aX s.a8&&wide s.r)
def qT(m:M)(s:kT):Except Nat M:=
 if AI {s with r:=(m.fK m.hW).getD 0}=false then .error 5 else if m.budget≤(m.bq.length:Int) then .error 6 else .ok {m with bq:=m.bq++[{s with r:=(m.fK m.hW).getD 0}]}
def Ky(m:M)(c:D):Except Nat M:=
 if m.u=0∨(m.fK c.n).isSome=true∨c.bX.length=0∨c.bX.headD 0≤0 then .error 4
 else match fW (c.bX.headD 0) m.u with
  |none=>.error 5
  |some g=>if g%2≠0 then .error 7 else .ok {m with fK:=fun j=>if j=c.n then some (g/2) else m.fK j}
def Kz(m:M)(c:D):Except Nat M:=
 if c.k=3 then (if m.u≠0 then .error 4 else .ok {m with u:=c.n,i:=(if c.n=2 then 2 else 3),d:=(if c.n=2 then 4 else 3),t:=!c.on})
 else if c.k=4 then Ky m c
 else if c.k=5 then (if m.u=0 then .error 4 else .ok {m with lE:=2})
 else .error 4
def Te(r:Except Nat M)(p q:Int):Except Nat M:=match r with
 |.error e=>.error e
 |.ok ey=>.ok {ey with x:=p,y:=q}
def KA(r:Except Nat M)(p q:Int)(h:Bool):Except Nat M:=match r with
 |.error e=>.error e
 |.ok ey=>.ok {ey with x:=p,y:=q,hit:=h}
def Tf(m:M)(o:Option (Int×Int))(p q:Int):Except Nat M:=match o with
 |none=>.error 5
 |some (df,bJ)=>KA (qT m (tJ p q df bJ 0)) df bJ false
def KB(m:M)(c:D):Except Nat M:=
 if m.gA=false∨(m.down=true∧m.hW=0) then .error 4 else match fI m c.x c.y m.x m.y with
 |none=>.error 5
 |some (p,q)=>if m.down=true then Te (qT m (tJ m.x m.y p q 0)) p q else .ok {m with x:=p,y:=q}
def AJ:Nat→M→Int→Int→Except Nat M
 |0,m,_,_=>.ok m
 |k+1,m,a,b=>match qT m (xL (m.x+a) (m.y+b) 0) with
  |.error e=>.error e
  |.ok ey=>AJ k {ey with x:=m.x+a,y:=m.y+b} a b
def OH(m:M)(c:D):Except Nat M:=match fI m c.x c.y 0 0 with
 |none=>.error 5
 |some (a,b)=>AJ c.n.toNat m a b
def KC(m:M)(c:D):Except Nat M:=
 if c.k=12 then OH m c else match fI m c.x c.y m.x m.y with
 |none=>.error 5
 |some (p,q)=>if c.k=8 then Tf m (fI m c.u c.v p q) p q else KA (qT m (xL p q 0)) p q (decide (c.k=7))
def KD(m:M)(c:D):Except Nat M:=
 if c.k=6 then (if (m.fK c.n).isSome=false∧c.n≠0 then .error 4 else .ok {m with hit:=false,hW:=c.n})
 else if c.k=14 then .ok {m with hit:=false}
 else if c.k=13 then .ok {m with hit:=false,gA:=false,down:=false}
 else if c.k=9 then (match fI m c.x c.y m.x m.y with
  |none=>.error 5
  |some (p,q)=>.ok {m with hit:=false,x:=p,y:=q,gA:=true,down:=false})
 else if c.k=10 then (if m.gA=false then .error 4 else .ok {m with hit:=false,down:=c.on})
 else if c.k=11 then KB {m with hit:=false} c
 else if c.k=7∨c.k=8∨c.k=12 then (if m.gA=true∨m.hW=0∨(c.k=12∧m.hit=false) then .error 4 else KC {m with hit:=false} c)
 else if c.k=15 then .ok {m with hit:=false,lE:=3}
 else .error 4
def kF(m:M)(c:D):Except Nat M:=
 if m.lE=0 then (if c.k≠2 then .error 4 else .ok {m with lE:=1})
 else if m.lE=1 then Kz m c
 else if m.lE=2 then KD m c
 else .error 4
def iF:List D→Nat→M→Except (Nat×Nat) M
 |[],_,m=>.ok m
 |c::l,i,m=>if c.k=1 then iF l (i+1) m else match kF m c with
  |.error e=>.error (i,e)
  |.ok ey=>iF l (i+1) ey
def EF(l:List D)(b:Int):List kT×Nat×Nat:=match iF l 0 (m0 b) with
 |.error (i,e)=>([],i,e)
 |.ok m=>if m.lE≠3 then ([],l.length,11) else (m.bq,0,0)
structure rD(m:M):Prop where
 cH:0≤m.budget
 cw:m.budget≤100000
 n:(m.bq.length:Int)≤m.budget
 eC:-536870912≤m.x
 eu:m.x≤536870912
 dH:-536870912≤m.y
 c0:m.y≤536870912
theorem ajb(b:Int):rD (m0 b):=⟨by show 0≤max 0 (min b 100000);omega,by show max 0 (min b 100000)≤100000;omega,by show ((0:Nat):Int)≤max 0 (min b 100000);omega,by show (-536870912:Int)≤0;decide,by show (0:Int)≤536870912;decide,by show (-536870912:Int)≤0;decide,by show (0:Int)≤536870912;decide⟩
theorem ajc{x y:Int}:ot x y=true↔-536870912≤x∧x≤536870912∧-536870912≤y∧y≤536870912:=by simp[ot]
variable{g:Int}
theorem Tg{n u:Int}(h:fW n u=some g):-536870912≤g∧g≤536870912:=by
 unfold fW at h;split at h
 ·injection h with h;omega
 ·cases h
theorem ajd{l:ar}{u i d:Int}{t:Bool}(h:mm.kk l u i d t=some g):-536870912≤g∧g≤536870912:=by
 unfold mm.kk at h;split at h
 ·exact Tg h
 ·cases h
variable{m:M}
theorem ZS{s:ar}(h:AH m s=some g):-536870912≤g∧g≤536870912:=by
 unfold AH at h;split at h
 ·split at h
  ·cases h
  ·exact Tg h
 ·exact ajd h
theorem Hn{x y:ar}{gm gn a b:Int}(h:fI m x y gm gn=some (a,b))(aF:-536870912≤gm)(au:gm≤536870912)(ax:-536870912≤gn)(aA:gn≤536870912):
  (-536870912≤a∧a≤536870912)∧(-536870912≤b∧b≤536870912):=by
 unfold fI at h;split at h
 ·cases h
 ·rename_i k1 ha;split at h
  ·cases h
  ·rename_i b1 ay;simp only[r0,fg] at h;obtain⟨rfl,rfl⟩:=h;constructor
   ·split at ha
    ·injection ha with ha;omega
    ·exact ZS ha
   ·split at ay
    ·injection ay with ay;omega
    ·exact ZS ay
variable{s:kT}
theorem ZT{ey:M}(h:qT m s=.ok ey):AI {s with r:=(m.fK m.hW).getD 0}=true∧(m.bq.length:Int)<m.budget∧ey={m with bq:=m.bq++[{s with r:=(m.fK m.hW).getD 0}]}:=by
 unfold qT at h;split at h
 ·cases h
 ·rename_i au;split at h
  ·cases h
  ·rename_i ax;injection h with h;exact⟨by simpa using au,by omega,h.symm⟩
theorem aje(h:AI s=true):ot s.a7 s.a'=true:=by
 unfold AI at h;split at h
 ·exact (qv _ _ ▸ h).1
 ·exact (qv _ _ ▸ h).1
theorem rD.add{ey:M}(hm:rD m)(h:qT m s=.ok ey):rD ey:=by obtain⟨_,ax,rfl⟩:=ZT h;exact⟨hm.cH,hm.cw,by show (((m.bq++[_]).length:Nat):Int)≤m.budget;rw[fH];simp;omega,hm.eC,hm.eu,hm.dH,hm.c0⟩
theorem rD.at(hm:rD m){p q:Int}(h:(-536870912≤p∧p≤536870912)∧(-536870912≤q∧q≤536870912)){eQ:Bool}:rD {m with x:=p,y:=q,hit:=eQ}:=⟨hm.cH,hm.cw,hm.n,h.1.1,h.1.2,h.2.1,h.2.2⟩
end rC
namespace dY
open Go.RowKit gI ga jz qe rC mI
abbrev Cn(x y:Int):Value:=.agg #[I x,I y]
abbrev fl(x y:Int):Obj:=.cells #[I x,I y] 38
abbrev Ho(s:kT):Array Value:= #[I s.k,I s.a7,I s.a',I s.aX,I s.a8,I s.cx,I s.bA,I s.r,cA,cA]
abbrev ajf(s:kT):Value:=.agg (Ho s)
abbrev Th(s:kT):Obj:=.cells (Ho s) 42
theorem h1{a b:Bool}(h:a=b):Ending.returned (U a)=ab (U b):=by rw[h]
theorem uy(x y:Int)(b:Bool)(ay:af (ot x y=b))(w:aeo):
  Calls Tryz.prog 202 #[.agg #[I x,I y]] w fun e w'=>e=ab (U b)∧w.alloc (fl x y)=w':=by
 by_cases au:-536870912≤x
 ·by_cases ax:x≤536870912
  ·by_cases aA:-536870912≤y
   ·by_cases bb:y≤536870912
    ·have aH:af (true=b):=(by show _=_;rw[←ay.out];simp[ot,au,ax,aA,bb]);clear ay;go_enter Gi,Gj;go_wp2_with fail;go_ret;exact⟨h1 aH.out,rfl⟩
    ·have aH:af (false=b):=(by show _=_;rw[←ay.out];simp[ot,bb]);clear ay;go_enter Gi,Gj;go_wp2_with fail;go_ret;exact⟨h1 aH.out,rfl⟩
   ·have aH:af (false=b):=(by show _=_;rw[←ay.out];simp[ot,aA]);clear ay;go_enter Gi,Gj;go_wp2_with fail;go_ret;exact⟨h1 aH.out,rfl⟩
  ·have aH:af (false=b):=(by show _=_;rw[←ay.out];simp[ot,ax]);clear ay;go_enter Gi,Gj;go_wp2_with fail;go_ret;exact⟨h1 aH.out,rfl⟩
 ·have aH:af (false=b):=(by show _=_;rw[←ay.out];simp[ot,au]);clear ay;go_enter Gi,Gj;go_wp2_with fail;go_ret;exact⟨h1 aH.out,rfl⟩
theorem DQ(r:Int)(b:Bool)(ay:af (wide r=b))(w:aeo):
  Calls Tryz.prog 203 #[I r] w fun e w'=>e=ab (U b)∧w=w':=by
 by_cases au:1≤r
 ·by_cases ax:r≤536870912
  ·have aH:af (true=b):=(by show _=_;rw[←ay.out];simp[wide,au,ax]);clear ay;go_enter Nj,Nk;go_wp2_with fail;go_ret;exact⟨h1 aH.out,rfl⟩
  ·have aH:af (false=b):=(by show _=_;rw[←ay.out];simp[wide,ax]);clear ay;go_enter Nj,Nk;go_wp2_with fail;go_ret;exact⟨h1 aH.out,rfl⟩
 ·have aH:af (false=b):=(by show _=_;rw[←ay.out];simp[wide,au]);clear ay;go_enter Nj,Nk;go_wp2_with fail;go_ret;exact⟨h1 aH.out,rfl⟩
theorem ajg(x y r:Int)(w:aeo):
  Calls Tryz.prog 201 #[.agg #[I 1,I x,I y,I 0,I 0,I 0,I 0,I r,J 0,J 0]] w fun e w'=>e=ab (U true)∧an w w w':=by
 go_enter Tryz.func201,Tryz.ntmps201;go_wp2_with fail;go_ret;exact⟨rfl,((Below.refl _ _).alloc (aP _) _).alloc (by simp) _⟩
theorem ajh(x y p q r:Int)(w:aeo):
  Calls Tryz.prog 201 #[.agg #[I 3,I x,I y,I p,I q,I 0,I 0,I r,J 0,J 0]] w fun e w'=>e=ab (U true)∧an w w w':=by
 go_enter Tryz.func201,Tryz.ntmps201;go_wp2_with fail;go_ret;exact⟨rfl,((Below.refl _ _).alloc (aP _) _).alloc (by simp) _⟩
theorem vb{w:aeo}{b:Nat}{v0 v1 v2 v3 v4 v5 v6 bS b0 v9:ada}{t:aai}(h:al w b (#[v0,v1,v2,v3,v4,v5,v6,bS,b0,v9]) t):
  ak w b 0 v0∧ak w b 1 v1∧ak w b 2 v2∧ak w b 3 v3∧ak w b 4 v4∧ak w b 5 v5∧ak w b 6 v6∧ak w b 7 bS∧ak w b 8 b0∧ak w b 9 v9:=by
 refine⟨?_,?_,?_,?_,?_,?_,?_,?_,?_,?_⟩<;>simp[World.cell?,h]
theorem aji(x y r:Int)(b:Bool)(ay:af (AI (xL x y r)=b))(w:aeo)(p:Nat)(hp:al w p (#[I 1000]) 3):
  Calls Tryz.prog 184 #[.agg #[I 1,I x,I y,I 0,I 0,I 0,I 0,I r,J 0,J 0],I 0,ah p 0] w fun e w'=>e=ab (U b)∧Below p w w':=by
 have bm:=(Array.getElem?_eq_some_iff.1 hp).1;have aV:ak w p 0 (I 1000):=by simp[World.cell?,hp]
 have f0:w.frozen? ⟨p,0,none⟩=false:=by simp[World.frozen?,hp]
 have th:=ao bm
 have bH:af (((w.setCell (aj p 0) (I 999)).alloc (ai (#[I 1,I x,I y,I 0,I 0,I 0,I 0,I r,J 0,J 0]) 42)).heap[w.heap.size]?=some (.cells #[I 1,I x,I y,I 0,I 0,I 0,I 0,I r,J 0,J 0] 42)):=by
  show _=_;have h:=dL (w.setCell (aj p 0) (I 999)) (ai (#[I 1,I x,I y,I 0,I 0,I 0,I 0,I r,J 0,J 0]) 42)
  rwa [show (w.setCell (aj p 0) (I 999)).heap.size=w.heap.size by simp] at h
 have hh:af (Below p w ((w.setCell (aj p 0) (I 999)).alloc (ai (#[I 1,I x,I y,I 0,I 0,I 0,I 0,I r,J 0,J 0]) 42))):=by have au:Below p w (w.setCell (aj p 0) (I 999)):=Below.setCell (Below.refl _ _) (p:=⟨p,0,none⟩) (aP p) _;exact au.alloc (by rw[show (w.setCell (aj p 0) (I 999)).heap.size=w.heap.size by simp];omega) _
 clear hp;go_enter NJ,NK;go_upto_region 4 with fail;generalize ((w.setCell (aj p 0) (I 999)).alloc (ai (#[I 1,I x,I y,I 0,I 0,I 0,I 0,I r,J 0,J 0]) 42))=W at bH hh⊢;obtain⟨g0,g1,g2,g3,g4,g5,g6,g7,g8,g9⟩:=vb bH.out;clear aV f0 bm;go_wp2_with fail;refine (ajg x y r W).mono ?_;rintro e bk ⟨rfl,cj⟩;have eb:=ao (ba bH.out cj);have cG:=ao (hh.out.trans (cj.mono (cd (k5 th.out) hh.out.size)));clear cj g0 g1 g2 g3 g4 g5 g6 g7 g8 g9 bH hh;obtain⟨g0,g1,g2,g3,g4,g5,g6,g7,g8,g9⟩:=vb eb.out;go_wp2_with fail;obtain⟨mJ,kU⟩:=aq (ot x y);have kq:=ao kU;refine (uy x y mJ kq bk).mono ?_;rintro e bt ⟨rfl,rfl⟩;have dy:af (Below p w (bk.alloc (fl x y))):=cG.out.alloc (cd (k5 th.out) cG.out.size) _;have gu:af ((bk.alloc (fl x y)).heap[w.heap.size]?=some (.cells #[I 1,I x,I y,I 0,I 0,I 0,I 0,I r,J 0,J 0] 42)):=ba eb.out ((Below.refl _ _).alloc (aP _) _);clear g0 g1 g2 g3 g4 g5 g6 g7 g8 g9 eb cG;generalize bk.alloc (fl x y)=bt at dy gu⊢;obtain⟨g0,g1,g2,g3,g4,g5,g6,g7,g8,g9⟩:=vb gu.out;cases mJ with
 |true=>
  have dY:af (wide r=b):=(by show _=_;rw[←ay.out];show _=(ot x y&&wide r);rw[kU];rfl);clear kU;go_wp2_with fail;refine (DQ r b dY bt).mono ?_;rintro e db ⟨rfl,rfl⟩;go_wp2_with fail;go_ret;exact⟨rfl,dy.out⟩
 |false=>
  have dY:af (false=b):=(by show _=_;rw[←ay.out];show _=(ot x y&&wide r);rw[kU];rfl);clear kU;go_wp2_with fail;go_ret;exact⟨h1 dY.out,dy.out⟩
theorem ajj(x y q s r:Int)(b:Bool)(ay:af (AI (tJ x y q s r)=b))(w:aeo)(p:Nat)(hp:al w p (#[I 1000]) 3):
  Calls Tryz.prog 184 #[.agg #[I 3,I x,I y,I q,I s,I 0,I 0,I r,J 0,J 0],I 0,ah p 0] w fun e w'=>e=ab (U b)∧Below p w w':=by
 have bm:=(Array.getElem?_eq_some_iff.1 hp).1;have aV:ak w p 0 (I 1000):=by simp[World.cell?,hp]
 have f0:w.frozen? ⟨p,0,none⟩=false:=by simp[World.frozen?,hp]
 have th:=ao bm
 have bH:af (((w.setCell (aj p 0) (I 999)).alloc (ai (#[I 3,I x,I y,I q,I s,I 0,I 0,I r,J 0,J 0]) 42)).heap[w.heap.size]?=some (.cells #[I 3,I x,I y,I q,I s,I 0,I 0,I r,J 0,J 0] 42)):=by
  show _=_;have h:=dL (w.setCell (aj p 0) (I 999)) (ai (#[I 3,I x,I y,I q,I s,I 0,I 0,I r,J 0,J 0]) 42)
  rwa [show (w.setCell (aj p 0) (I 999)).heap.size=w.heap.size by simp] at h
 have hh:af (Below p w ((w.setCell (aj p 0) (I 999)).alloc (ai (#[I 3,I x,I y,I q,I s,I 0,I 0,I r,J 0,J 0]) 42))):=by have au:Below p w (w.setCell (aj p 0) (I 999)):=Below.setCell (Below.refl _ _) (p:=⟨p,0,none⟩) (aP p) _;exact au.alloc (by rw[show (w.setCell (aj p 0) (I 999)).heap.size=w.heap.size by simp];omega) _
 clear hp;go_enter NJ,NK;go_upto_region 4 with fail;generalize ((w.setCell (aj p 0) (I 999)).alloc (ai (#[I 3,I x,I y,I q,I s,I 0,I 0,I r,J 0,J 0]) 42))=W at bH hh⊢;obtain⟨g0,g1,g2,g3,g4,g5,g6,g7,g8,g9⟩:=vb bH.out;clear aV f0 bm;go_wp2_with fail;refine (ajh x y q s r W).mono ?_;rintro e bk ⟨rfl,cj⟩;have eb:=ao (ba bH.out cj);have cG:=ao (hh.out.trans (cj.mono (cd (k5 th.out) hh.out.size)));clear cj g0 g1 g2 g3 g4 g5 g6 g7 g8 g9 bH hh;obtain⟨g0,g1,g2,g3,g4,g5,g6,g7,g8,g9⟩:=vb eb.out;go_wp2_with fail;obtain⟨mJ,kU⟩:=aq (ot x y);have kq:=ao kU;refine (uy x y mJ kq bk).mono ?_;rintro e bt ⟨rfl,rfl⟩;have dy:af (Below p w (bk.alloc (fl x y))):=cG.out.alloc (cd (k5 th.out) cG.out.size) _;have gu:af ((bk.alloc (fl x y)).heap[w.heap.size]?=some (.cells #[I 3,I x,I y,I q,I s,I 0,I 0,I r,J 0,J 0] 42)):=ba eb.out ((Below.refl _ _).alloc (aP _) _);clear g0 g1 g2 g3 g4 g5 g6 g7 g8 g9 eb cG;generalize bk.alloc (fl x y)=bt at dy gu⊢;obtain⟨g0,g1,g2,g3,g4,g5,g6,g7,g8,g9⟩:=vb gu.out;cases mJ with
 |true=>
  obtain⟨mK,Ti⟩:=aq (ot q s);have ajk:=ao Ti;have dY:af ((mK&&wide r)=b):=(by show _=_;rw[←ay.out];show _=(ot x y&&(ot q s&&wide r));rw[kU,Ti];rfl);clear kU Ti;go_wp2_with fail;refine (uy q s mK ajk bt).mono ?_;rintro e db ⟨rfl,rfl⟩;have dO:af (Below p w (bt.alloc (fl q s))):=dy.out.alloc (cd (k5 th.out) dy.out.size) _;have jA:af ((bt.alloc (fl q s)).heap[w.heap.size]?=some (.cells #[I 3,I x,I y,I q,I s,I 0,I 0,I r,J 0,J 0] 42)):=ba gu.out ((Below.refl _ _).alloc (aP _) _);clear g0 g1 g2 g3 g4 g5 g6 g7 g8 g9 gu dy;generalize bt.alloc (fl q s)=db at dO jA⊢;obtain⟨g0,g1,g2,g3,g4,g5,g6,g7,g8,g9⟩:=vb jA.out;cases mK with
  |true=>
   have Hp:af (wide r=b):=dY.out;go_wp2_with fail;refine (DQ r b Hp db).mono ?_;rintro e bZ ⟨rfl,rfl⟩;go_wp2_with fail;go_ret;exact⟨rfl,dO.out⟩
  |false=>
   have Hp:af (false=b):=dY.out;go_wp2_with fail;go_ret;exact⟨h1 Hp.out,dO.out⟩
 |false=>
  have dY:af (false=b):=(by show _=_;rw[←ay.out];show _=(ot x y&&(ot q s&&wide r));rw[kU];rfl);clear kU;go_wp2_with fail;go_ret;exact⟨h1 dY.out,dy.out⟩
def Plain(s:kT):Prop:=(∃x y r,s=xL x y r)∨∃x y p q r,s=tJ x y p q r
theorem JE(s:kT)(hs:Plain s)(b:Bool)(ay:af (AI s=b))(w:aeo):
  Calls Tryz.prog 161 #[ajf s] w fun e w'=>e=ab (U b)∧an w w w':=by
 rcases hs with ⟨x,y,r,rfl⟩|⟨x,y,p,q,r,rfl⟩
 ·have bw:af (((w.alloc (ai (#[I 1,I x,I y,I 0,I 0,I 0,I 0,I r,J 0,J 0]) 42)).alloc (ai (#[I 1000]) 3)).heap[w.heap.size+1]?=some (.cells #[I 1000] 3)):=by
   have h:=dL (w.alloc (ai (#[I 1,I x,I y,I 0,I 0,I 0,I 0,I r,J 0,J 0]) 42)) (ai (#[I 1000]) 3)
   rwa [show (w.alloc (ai (#[I 1,I x,I y,I 0,I 0,I 0,I 0,I r,J 0,J 0]) 42)).heap.size=w.heap.size+1 by simp] at h
  go_enter Tryz.func161,Tryz.ntmps161;go_wp2_with fail;refine (aji x y r b ay _ _ bw.out).mono ?_;rintro e w' ⟨rfl,hw⟩;go_wp2_with fail;go_ret;exact⟨rfl,(((Below.refl _ _).alloc (aP _) _).alloc (by simp) _).trans (hw.mono (by omega))⟩
 ·have bw:af (((w.alloc (Th (tJ x y p q r))).alloc (ai (#[I 1000]) 3)).heap[w.heap.size+1]?=some (.cells #[I 1000] 3)):=by
   have h:=dL (w.alloc (Th (tJ x y p q r))) (ai (#[I 1000]) 3)
   rwa [show (w.alloc (Th (tJ x y p q r))).heap.size=w.heap.size+1 by simp] at h
  go_enter Tryz.func161,Tryz.ntmps161;go_wp2_with fail;refine (ajj x y p q r b ay _ _ bw.out).mono ?_;rintro e w' ⟨rfl,hw⟩;go_wp2_with fail;go_ret;exact⟨rfl,(((Below.refl _ _).alloc (aP _) _).alloc (by simp) _).trans (hw.mono (by omega))⟩
end dY
namespace AK
open Go.RowKit ga gI jz mm
abbrev EG(u i d:Int)(t:Bool):Value:=.agg #[I u,I i,I d,U t]
abbrev y8(u i d:Int)(t:Bool):Obj:=.cells #[I u,I i,I d,U t] 133
theorem ZU(u:Int)(w:aeo):Calls Tryz.prog 164 #[I u] w fun e w'=>e=ab (I (r3 u))∧w=w':=by
 go_enter Tryz.func164,Tryz.ntmps164;by_cases au:u=1
 ·subst au;go_wp2;go_ret;exact⟨rfl,rfl⟩
 ·by_cases ax:u=2
  ·subst ax;go_wp2;go_ret;exact⟨rfl,rfl⟩
  ·have hp:r3 u=0:=(by simp[r3,au,ax]);have bw:=ao hp;have cw:(u==1)=false:=(by simp[au]);have bl:(u==2)=false:=(by simp[ax]);clear hp;go_wp2;go_ret;rw[bw.out];exact⟨rfl,rfl⟩
theorem OI(u p:Int)(hp:af (r3 u=p))(w:aeo):Calls Tryz.prog 164 #[I u] w fun e w'=>e=ab (I p)∧w=w':=by have:=hp.out;subst this;exact ZU u w
theorem Gr{k:IntKind}{a b:Int}(h:a=b):Ending.returned (.int k a)=ab (.int k b):=by rw[h]
theorem ajl(n:Int)(k:Nat)(aw:k≤18)(ay:n.natAbs *10^k≤1000000000000000000)(v:Int)(aS:af (n *((10^k:Nat):Int)=v))(w:aeo):
  Calls Tryz.prog 162 #[I n,I k] w fun e w'=>e=ab (I v)∧w=w':=by
 have aH:=ao ay;clear ay;go_enter Tryz.func162,Tryz.ntmps162;go_wp2
 go_loop [0,6] (fun v i=>∃(j:Nat) (x:Int),j≤k∧x=n *((10^j:Nat):Int)∧i=I j∧v=I x) (fun _ i=>k -(intOf i).toNat)
 case atStart=>exact⟨0,n,cO _,by simp,rfl,rfl⟩
 case round=>
  obtain⟨j,x,b6,hx,rfl,rfl⟩:=hrel;by_cases bm:j<k
  ·have cj:x.natAbs *10≤1000000000000000000:=(by have au:x.natAbs=n.natAbs *10^j:=(by rw[hx,Ck,Cl]);rw[au,Nat.mul_assoc,←Ng];exact cd (Nat.mul_le_mul_left _ (vK (by decide) bm)) aH.out);have ck:-100000000000000000≤x:=(by omega);have eF:x≤100000000000000000:=(by omega);have cK:af (x *10=n *((10 ^(j+1):Nat):Int)):=(by show _=_;rw[hx,Ng,JO,Int.mul_assoc];rfl);clear hx cj;go_wp2;go_round
   case rel=>exact⟨j+1,x *10,by omega,cK.out,by go_num,rfl⟩
   case measure=>simp[intOf];omega
  ·obtain rfl:j=k:=(by omega);have cK:=ao hx;clear hx;go_wp2;go_ret;exact⟨Gr (cK.out.trans aS.out),rfl⟩
theorem Tj(n:Int)(i:Int)(k:Nat)(hi:i=k)(aw:k≤18)(ay:n.natAbs *10^k≤1000000000000000000)(v:Int)(aS:af (n *((10^k:Nat):Int)=v))(w:aeo):
  Calls Tryz.prog 162 #[I n,I i] w fun e w'=>e=ab (I v)∧w=w':=by
 subst hi;exact ajl n k aw ay v aS w
theorem ajm(u i d:Int)(t:Bool)(w:aeo):Calls Tryz.prog 116 #[EG u i d t] w fun e w'=>e=ab (U (s9 u i d))∧w.alloc (y8 u i d t)=w':=by
 cases hf:s9 u i d with
 |true=>
  obtain⟨au,ax,aA,bb,bj,b8⟩:=(RJ u i d).1 hf;clear hf;rcases au with rfl|rfl
  all_goals
   go_enter ED,EE;by_cases cY:0<i
   ·go_wp2;go_ret;exact⟨rfl,rfl⟩
   ·have dM:0<d:=(by omega);go_wp2;go_ret;exact⟨rfl,rfl⟩
 |false=>
  have hn:¬((u=1∨u=2)∧0≤i∧i≤6∧0≤d∧d≤6∧0<i+d):=(fun h=>by rw[(RJ u i d).2 h] at hf;cases hf);clear hf;by_cases au:u=1∨u=2
  ·have h3:¬(0≤i∧i≤6∧0≤d∧d≤6∧0<i+d):=fun h=>hn ⟨au,h⟩;clear hn;rcases au with rfl|rfl
   all_goals
    by_cases aT:0≤i
    ·by_cases c2:i≤6
     ·by_cases c3:0≤d
      ·by_cases cD:d≤6
       ·have c5:¬0<i:=(by omega);have cX:¬0<d:=(by omega);clear h3;go_enter ED,EE;go_wp2;go_ret;exact⟨rfl,rfl⟩
       ·clear h3;go_enter ED,EE;go_wp2;go_ret;exact⟨rfl,rfl⟩
      ·clear h3;go_enter ED,EE;go_wp2;go_ret;exact⟨rfl,rfl⟩
     ·clear h3;go_enter ED,EE;go_wp2;go_ret;exact⟨rfl,rfl⟩
    ·clear h3;go_enter ED,EE;go_wp2;go_ret;exact⟨rfl,rfl⟩
  ·clear hn;have cw:(u==1)=false:=(by simp;omega);have bl:(u==2)=false:=(by simp;omega);have ll:(u !=1)=true:=(by simp;omega);have AL:(u !=2)=true:=(by simp;omega);clear au;go_enter ED,EE;go_wp2;go_ret;exact⟨rfl,rfl⟩
theorem OJ(u i d:Int)(t:Bool)(b:Bool)(ay:af (s9 u i d=b))(w:aeo):Calls Tryz.prog 116 #[EG u i d t] w fun e w'=>e=ab (U b)∧w.alloc (y8 u i d t)=w':=by have:=ay.out;subst this;exact ajm u i d t w
theorem Tk(n u:Int):∃(v:Int) (b:Bool),(fW n u).getD 0=v∧(fW n u).isSome=b:=⟨_,_,rfl,rfl⟩
theorem ajn{n:Int}(h:r2 n=true):-1000000000000<n∧n<1000000000000:=(ahb n).1 h
theorem ajo(n u:Int)(w:aeo):
  Calls Tryz.prog 126 #[I n,I u] w fun e w'=>e=ab (.tuple #[I ((fW n u).getD 0),U (fW n u).isSome])∧w=w':=by
 cases fL:r2 n with
 |false=>
  have aI:fW n u=none:=(by unfold fW;rw[aN];rintro⟨h,_⟩;rw[fL] at h;cases h);have fy:=ao aI;have mL:=ao fL;clear aI fL;go_enter Kw,Kx;go_wp2_with fail;refine (ZU u _).mono ?_;rintro e w' ⟨rfl,rfl⟩;generalize r3 u=p;go_wp2_with fail;refine (Hh n _).mono ?_;rintro e w' ⟨rfl,rfl⟩;rw[mL.out];go_wp2_with fail;go_ret2;rw[fy.out];exact⟨rfl,rfl⟩
 |true=>
  have ay:=ajn fL;obtain⟨cj,ck⟩:=ay;by_cases hu:u=1∨u=2
  ·have hp:=ahw hu;obtain⟨p,Hq⟩:=aq (r3 u);rw[Hq] at hp;have bw:=ao Hq;have mL:=ao fL;by_cases hr:-536870912≤n *p∧n *p≤536870912
   ·have aI:fW n u=some (n *p):=(by unfold fW;rw[Hq,aW ⟨fL,hu,hr⟩]);have fy:=ao aI;obtain⟨dI,h4⟩:=hr;clear aI fL Hq hu;rcases hp with rfl|rfl
    all_goals
     go_enter Kw,Kx;go_wp2_with fail;refine (OI u _ bw _).mono ?_;rintro e w' ⟨rfl,rfl⟩;go_wp2_with fail;refine (Hh n _).mono ?_;rintro e w' ⟨rfl,rfl⟩;rw[mL.out];go_wp2_with fail;go_ret2;rw[fy.out];exact⟨rfl,rfl⟩
   ·have aI:fW n u=none:=(by unfold fW;rw[Hq,aN];rintro⟨_,_,h⟩;exact hr h);have fy:=ao aI;clear aI fL Hq hu;by_cases dI:-536870912≤n *p
    ·have h4:¬n *p≤536870912:=fun h=>hr ⟨dI,h⟩;clear hr;rcases hp with rfl|rfl
     all_goals
      go_enter Kw,Kx;go_wp2_with fail;refine (OI u _ bw _).mono ?_;rintro e w' ⟨rfl,rfl⟩;go_wp2_with fail;refine (Hh n _).mono ?_;rintro e w' ⟨rfl,rfl⟩;rw[mL.out];go_wp2_with fail;go_ret2;rw[fy.out];exact⟨rfl,rfl⟩
    ·clear hr;rcases hp with rfl|rfl
     all_goals
      go_enter Kw,Kx;go_wp2_with fail;refine (OI u _ bw _).mono ?_;rintro e w' ⟨rfl,rfl⟩;go_wp2_with fail;refine (Hh n _).mono ?_;rintro e w' ⟨rfl,rfl⟩;rw[mL.out];go_wp2_with fail;go_ret2;rw[fy.out];exact⟨rfl,rfl⟩
  ·have aI:fW n u=none:=(by unfold fW;rw[aN];rintro⟨_,h,_⟩;exact hu h);have hp:r3 u=0:=(by unfold r3;rw[aN (fun h=>hu (.inl h)),aN (fun h=>hu (.inr h))]);have fy:=ao aI;have bw:=ao hp;have mL:=ao fL;clear aI fL hp hu;go_enter Kw,Kx;go_wp2_with fail;refine (OI u _ bw _).mono ?_;rintro e w' ⟨rfl,rfl⟩;go_wp2_with fail;refine (Hh n _).mono ?_;rintro e w' ⟨rfl,rfl⟩;rw[mL.out];go_wp2_with fail;go_ret2;rw[fy.out];exact⟨rfl,rfl⟩
theorem vc(n u v:Int)(b:Bool)(aS:af ((fW n u).getD 0=v∧(fW n u).isSome=b))(w:aeo):
  Calls Tryz.prog 126 #[I n,I u] w fun e w'=>e=ab (.tuple #[I v,U b])∧w=w':=by
 obtain⟨au,ax⟩:=aS.out;subst au;subst ax;exact ajo n u w
end AK
namespace mm
open ga
open Go.Lib (decDigits nDigits trimRightB dg)
def EH(l:ar)(size d:Nat)(t:Bool):Nat:=val l *(if t then 10 ^(size-l.length) else 1) *10 ^(6-d)
variable{l:ar}
theorem OK{u i d:Int}{t:Bool}(h:¬(s9 u i d=true∧1≤(strip l).2.length∧((strip l).2.length:Int)≤i+d∧bK (strip l).2=(strip l).2.length)):kk l u i d t=none:=by unfold kk;rw[aN h]
theorem ajp{u:Int}{eV D:Nat}{t:Bool}(h:s9 u eV D=true∧1≤(strip l).2.length∧((strip l).2.length:Int)≤(eV:Int)+D∧bK (strip l).2=(strip l).2.length):
  kk l u eV D t=fW (if (strip l).1 then -((EH (strip l).2 (eV+D) D t:Nat):Int) else ((EH (strip l).2 (eV+D) D t:Nat):Int)) u:=by
 unfold kk;rw[aW h];rfl
theorem ajq(h:bK l=l.length):val l<10^l.length:=by
 have:=DK l l.length (by omega)
 rwa [vI] at this
end mm
namespace AK
open Go.RowKit ga gI jz mm
theorem ajr(s:Ua)(u i d:Int)(t:Bool)(hs:s.size≤9223372036854775807)(w:aeo):
  Calls Tryz.prog 122 #[aa s,EG u i d t] w fun e w'=>e=ab (.tuple #[I ((kk s.data.toList u i d t).getD 0),U (kk s.data.toList u i d t).isSome])∧an w w w':=by
 cases hf:s9 u i d with
 |false=>
  have hk:kk s.data.toList u i d t=none:=OK (fun h=>by rw[hf] at h;cases h.1);have bd:=ao hk;have aJ:=ao hf;clear hk hf;go_enter Tryz.func122,Tryz.ntmps122;go_wp2_with fail;refine (OJ u i d t false aJ _).mono ?_;rintro e w' ⟨rfl,rfl⟩;go_wp2_with fail;go_ret2;rw[bd.out];exact⟨rfl,((Below.refl _ _).alloc (aP _) _).alloc (by simp) _⟩
 |true=>
  have se:=(RJ u i d).1 hf;obtain⟨eV,rfl⟩:∃eV:Nat,i=eV:=⟨i.toNat,by omega⟩;obtain⟨D,rfl⟩:∃D:Nat,d=D:=⟨d.toNat,by omega⟩;have xM:eV≤6:=(by omega);have b4:D≤6:=(by omega);have aJ:=ao hf;clear hf se;go_enter Tryz.func122,Tryz.ntmps122;go_wp2_with fail;refine (OJ u eV D t true aJ _).mono ?_;rintro e w' ⟨rfl,rfl⟩;go_upto_region 4 with fail;go_cut [24] (fun c cq=>c=U (y7 s.data.toList)∧(w.alloc (y8 u eV D t)).alloc (y8 u eV D t)=cq)
  case first=>
   by_cases aF:0<s.size
   ·have aH:=ao (Tb s aF);have hne:s.toList.isEmpty=false:=(by rw[nj,AF s aF];rfl);have Gk:¬s.toList=[]:=(by intro h;rw[h] at hne;cases hne);by_cases Cg:s[0].toNat=43
    all_goals
     go_wp2;go_meet;refine⟨fS Value.bool ?_,rfl⟩;rw[aH.out];simp[Cg,OF];try omega
   ·have aH:=ao (Tc s aF);have hne:s.toList=[]:=(by rw[nj];exact Ta s aF);go_wp2;go_meet;exact⟨fS Value.bool aH.out.symm,rfl⟩
  case rest=>
   obtain⟨rfl,rfl⟩:=hcut;go_upto_if 24 with fail;go_cut [0,6] (fun a b cq=>∃T:Ua,a=aa T∧T.size≤9223372036854775807∧T.data.toList=(strip s.data.toList).2∧b=U (strip s.data.toList).1∧(w.alloc (y8 u eV D t)).alloc (y8 u eV D t)=cq)
   case first=>
    cases aI:y7 s.data.toList with
    |true=>
     have aF:=ZE aI;have bH:=ao (ZD s aF aI);clear aI;go_wp2;go_meet;rw[bH.out];exact⟨_,rfl,by simp;omega,ZB s,fS Value.bool (OF _),rfl⟩
    |false=>
     have bH:=ao (ZC aI);clear aI;go_wp2;go_meet;rw[bH.out];exact⟨_,rfl,hs,rfl,rfl,rfl⟩
   case rest=>
    obtain⟨T,rfl,bc,az,rfl,rfl⟩:=hcut;have KE:an w w ((w.alloc (y8 u eV D t)).alloc (y8 u eV D t)):=((Below.refl _ _).alloc (aP _) _).alloc (by simp) _;have qd:=ao KE;clear KE;obtain⟨l,rA⟩:=aq T.data.toList;have hlen:l.length=T.size:=(by rw[←rA];simp);have xN:(strip s.data.toList).2=l:=(by rw[←az,rA]);by_cases au:1≤T.size
    ·by_cases ax:T.size≤eV+D
     ·by_cases aA:bK l=l.length
      ·have Tl:=ajp (t:=t) ⟨aJ.out,by rw[xN];omega,by rw[xN];omega,by rw[xN];exact aA⟩;rw[xN] at Tl;have aS:=ajq aA;have ZV:val l<10^T.size:=(by rw[←hlen];exact aS);have fq:=ao Tl;have bW:=ao aA;have ei:=ao rA;have cM:=ao ZV;have nh:=ao hlen;clear Tl aA az rA aS ZV xN hlen;generalize (strip s.data.toList).1=b at fq⊢;go_wp2_with fail
       go_loop [8,46] (fun v i=>∃(k:Nat) (x:Int),k≤T.size∧0≤x∧x<1000000000000∧x=val (l.take k)∧i=I k∧v=I x) (fun _ i=>T.size -(intOf i).toNat)
       case atStart=>exact⟨0,0,cO _,by omega,by omega,rfl,rfl,rfl⟩
       case round=>
        obtain⟨k,x,aw,y9,qg,hx,rfl,rfl⟩:=hrel;by_cases bm:k<T.size
        ·have ZW:fi T[k]=true:=(by have bb:=(Aa l).1 k (by rw[nh.out];exact bm) (by rw[bW.out,nh.out];exact bm);have:T.data.toList[k]'(by simpa using bm)=T[k]:=oo T k bm;rw[←this];have e:∀(m:ar) (h:k<m.length),m=l→fi m[k]=true:=(by intro m h hm;subst hm;exact bb);exact e _ _ ei.out);obtain⟨oW,tK⟩:=(sZ T[k]).1 ZW;have mH:=DK l k (by rw[bW.out,nh.out];omega);have hp:(10:Nat)^ k≤10^11:=vK (by decide) (by omega);have Hr:x<100000000000:=(by omega);have bH:af (val (l.take (k+1))=val (l.take k) *10+(T[k].toNat-48)):=(by show _=_;rw[←ei.out,OE T k bm];exact Nl _ _);have cK:=ao hx;have aY:¬T[k].toNat<48:=(by omega);have a6:¬57<T[k].toNat:=(by omega);clear hx mH hp ZW;go_wp2;go_round
         case rel=>exact⟨k+1,x *10+(T[k].toNat-48),by omega,by omega,by omega,by rw[bH.out,cK.out];omega,by go_num,by go_num⟩
         case measure=>simp[intOf];omega
        ·obtain rfl:k=T.size:=(by omega);have Tm:x=(val l:Nat):=(by rw[hx,sY (by rw[nh.out];exact aP _)]);have Hr:x.natAbs<10^T.size:=(by rw[Tm,Cl];exact cM.out);have ZX:=ao Tm;have ZY:x.natAbs≤1000000000000:=(by omega);clear hx Tm;have fin:∀m:Int,0≤m→m=((EH l (eV+D) D t:Nat):Int)→∃(v:Int) (o:Bool),((fW (if b then -m else m) u).getD 0=v∧(fW (if b then -m else m) u).isSome=o)∧(kk s.data.toList u eV D t).getD 0=v∧(kk s.data.toList u eV D t).isSome=o:=(by intro m _ hm;refine⟨_,_,⟨rfl,rfl⟩,?_⟩;rw[fq.out,hm];exact⟨rfl,rfl⟩);have ZZ:=ao fin;clear fin;cases t with
         |true=>
          obtain⟨y,hy⟩:∃y:Int,x *((10 ^(eV+D-T.size):Nat):Int)=y:=⟨_,rfl⟩;obtain⟨z,bP⟩:∃z:Int,y *((10 ^(6-D):Nat):Int)=z:=⟨_,rfl⟩
          have Z0:y.natAbs<10 ^(eV+D):=by
           rw[←hy,Ck,Cl];have:=Jl Hr (Jm (n:=eV+D-T.size) (show 0<10 by decide))
           rwa [←Jn,show T.size+(eV+D-T.size)=eV+D by omega] at this
          have Hs:z.natAbs<10 ^(eV+6):=by
           rw[←bP,Ck,Cl];have:=Jl Z0 (Jm (n:=6-D) (show 0<10 by decide))
           rwa [←Jn,show eV+D+(6-D)=eV+6 by omega] at this
          have cj:x.natAbs *10 ^(eV+D-T.size)≤1000000000000000000:=(by have au:x.natAbs *10 ^(eV+D-T.size)=y.natAbs:=(by rw[←hy,Ck,Cl]);have ax:=Jw (eV+D) (by omega);omega);have ck:y.natAbs *10 ^(6-D)≤1000000000000000000:=(by have au:y.natAbs *10 ^(6-D)=z.natAbs:=(by rw[←bP,Ck,Cl]);have ax:=Jw (eV+6) (by omega);omega);have Tn:=Jw (eV+6) (by omega);have cW:0≤z:=(by rw[←bP,←hy];exact BJ (BJ y9 (Cm _)) (Cm _));have dv:z≤1000000000000:=(by omega);have KF:z=((EH l (eV+D) D true:Nat):Int):=(by unfold EH;rw[aW rfl,←bP,←hy,ZX.out,nh.out,JO,JO]);obtain⟨v,o,y0,xk,KG⟩:=ZZ.out z cW KF;have tA:=ao y0;have vY:=ao xk;have pz:=ao KG;have ajs:=ao hy;have To:=ao bP;have cG:=ao cj;have dy:=ao ck;clear hy bP Z0 Hs cj ck Tn KF y0 xk KG Hr ZY;go_wp2_with fail;refine (Tj x _ (eV+D-T.size) (by omega) (by omega) cG.out y ajs _).mono ?_;rintro e w' ⟨rfl,rfl⟩;go_wp2_with fail;refine (Tj y _ (6-D) (by omega) (by omega) dy.out z To _).mono ?_;rintro e w' ⟨rfl,rfl⟩;cases b with
          |true=>
           have EI:af ((fW (-z) u).getD 0=v∧(fW (-z) u).isSome=o):=tA.out;go_wp2_with fail;with_reducible refine (vc _ u v o EI _).mono ?_
           rintro e w' ⟨rfl,rfl⟩;go_wp2_with fail;go_ret2;rw[vY.out,pz.out];exact⟨rfl,qd.out⟩
          |false=>
           have EI:af ((fW z u).getD 0=v∧(fW z u).isSome=o):=tA.out;go_wp2_with fail;with_reducible refine (vc _ u v o EI _).mono ?_
           rintro e w' ⟨rfl,rfl⟩;go_wp2_with fail;go_ret2;rw[vY.out,pz.out];exact⟨rfl,qd.out⟩
         |false=>
          obtain⟨z,bP⟩:∃z:Int,x *((10 ^(6-D):Nat):Int)=z:=⟨_,rfl⟩;have Hs:z.natAbs<10 ^(eV+6):=(by rw[←bP,Ck,Cl];have au:=Jl Hr (Jm (n:=6-D) (show 0<10 by decide));rw[←Jn] at au;exact hN au (vK (by decide) (by omega)));have ck:x.natAbs *10 ^(6-D)≤1000000000000000000:=(by have au:x.natAbs *10 ^(6-D)=z.natAbs:=(by rw[←bP,Ck,Cl]);have ax:=Jw (eV+6) (by omega);omega);have Tn:=Jw (eV+6) (by omega);have cW:0≤z:=(by rw[←bP];exact BJ y9 (Cm _));have dv:z≤1000000000000:=(by omega);have KF:z=((EH l (eV+D) D false:Nat):Int):=(by unfold EH;rw[aN (by decide),←bP,ZX.out,JO,Nat.mul_one]);obtain⟨v,o,y0,xk,KG⟩:=ZZ.out z cW KF;have tA:=ao y0;have vY:=ao xk;have pz:=ao KG;have To:=ao bP;have dy:=ao ck;clear bP Hs ck Tn KF y0 xk KG Hr ZY;go_wp2_with fail;refine (Tj x _ (6-D) (by omega) (by omega) dy.out z To _).mono ?_;rintro e w' ⟨rfl,rfl⟩;cases b with
          |true=>
           have EI:af ((fW (-z) u).getD 0=v∧(fW (-z) u).isSome=o):=tA.out;go_wp2_with fail;with_reducible refine (vc _ u v o EI _).mono ?_
           rintro e w' ⟨rfl,rfl⟩;go_wp2_with fail;go_ret2;rw[vY.out,pz.out];exact⟨rfl,qd.out⟩
          |false=>
           have EI:af ((fW z u).getD 0=v∧(fW z u).isSome=o):=tA.out;go_wp2_with fail;with_reducible refine (vc _ u v o EI _).mono ?_
           rintro e w' ⟨rfl,rfl⟩;go_wp2_with fail;go_ret2;rw[vY.out,pz.out];exact⟨rfl,qd.out⟩
      ·have ji:kk s.data.toList u eV D t=none:=OK (fun h=>aA (by have:=h.2.2.2;rwa [xN] at this));have rE:=ao ji;have eU:=r1 l;have auP:bK l<T.size:=(by omega);have ei:=ao rA;have nh:=ao hlen;clear ji aA az rA xN hlen eU;generalize (strip s.data.toList).1=b;go_wp2_with fail
       go_loop [8,46] (fun v i=>∃(k:Nat) (x:Int),k≤bK l∧0≤x∧x<1000000000000∧x=val (l.take k)∧i=I k∧v=I x) (fun _ i=>T.size -(intOf i).toNat)
       case atStart=>exact⟨0,0,cO _,by omega,by omega,rfl,rfl,rfl⟩
       case round=>
        obtain⟨k,x,aw,y9,qg,hx,rfl,rfl⟩:=hrel;have Tp:k<T.size:=(by omega);have Co:∀(m:ar) (h:k<m.length),m=l→(k<bK l→fi m[k]=true)∧(bK l=k→fi m[k]=false):=(by intro m h hm;subst hm;exact⟨fun bb=>(Aa m).1 k h bb,fun bb=>by have:=(Aa m).2 (by omega);simpa[bb] using this⟩);have aI:=Co T.data.toList (by simpa using Tp) ei.out;rw[oo T k Tp] at aI;by_cases bm:k<bK l
        ·obtain⟨oW,tK⟩:=(sZ T[k]).1 (aI.1 bm);have mH:=DK l k (by omega);have hp:(10:Nat)^ k≤10^11:=vK (by decide) (by omega);have Hr:x<100000000000:=(by omega);have bH:af (val (l.take (k+1))=val (l.take k) *10+(T[k].toNat-48)):=(by show _=_;rw[←ei.out,OE T k Tp];exact Nl _ _);have cK:=ao hx;have aY:¬T[k].toNat<48:=(by omega);have a6:¬57<T[k].toNat:=(by omega);clear hx mH hp aI Co;go_wp2;go_round
         case rel=>exact⟨k+1,x *10+(T[k].toNat-48),by omega,by omega,by omega,by rw[bH.out,cK.out];omega,by go_num,by go_num⟩
         case measure=>simp[intOf];omega
        ·have aB:=(Jp T[k]).1 (aI.2 (by omega));clear hx aI Co;rcases aB with aB|aB
         ·go_wp2;go_ret2;rw[rE.out];exact⟨rfl,qd.out⟩
         ·have aY:¬T[k].toNat<48:=(by omega);go_wp2;go_ret2;rw[rE.out];exact⟨rfl,qd.out⟩
     ·have ji:kk s.data.toList u eV D t=none:=OK (fun h=>ax (by have:=h.2.2.1;rw[xN] at this;omega));have rE:=ao ji;clear ji az rA xN hlen;generalize (strip s.data.toList).1=b;go_wp2_with fail;go_ret2;rw[rE.out];exact⟨rfl,qd.out⟩
    ·have ji:kk s.data.toList u eV D t=none:=OK (fun h=>au (by have:=h.2.1;rw[xN] at this;omega));have rE:=ao ji;clear ji az rA xN hlen;generalize (strip s.data.toList).1=b;go_wp2_with fail;go_ret2;rw[rE.out];exact⟨rfl,qd.out⟩
theorem KH(s:Ua)(l:ar)(az:af (s.data.toList=l))(u i d:Int)(t:Bool)(v:Int)(b:Bool)(aS:af ((kk l u i d t).getD 0=v∧(kk l u i d t).isSome=b))(hs:s.size≤9223372036854775807)(w:aeo):
  Calls Tryz.prog 122 #[aa s,EG u i d t] w fun e w'=>e=ab (.tuple #[I v,U b])∧an w w w':=by
 have au:=az.out;obtain⟨ax,aA⟩:=aS.out;subst au;subst ax;subst aA;exact ajr s u i d t hs w
end AK
