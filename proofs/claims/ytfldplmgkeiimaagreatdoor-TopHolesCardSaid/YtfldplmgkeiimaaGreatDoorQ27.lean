/- Lemmas. -/
import Derived.Test.YtfldplmgkeiimaaGreatDoorQ26
set_option linter.all false
set_option maxRecDepth 100000
set_option maxHeartbeats 12800000
namespace Go.Proofs.YtfldplmgkeiimaaGreatDoor
abbrev ady:=@List.dropLast_concat_getLast
abbrev IP:=@Nat.le_succ_of_le
abbrev Mk:=@Proofs.Tryz.underlying98
namespace dE
open el
open cf (C eI)
structure Inv(n:Nat)(p:cG):Prop where
 bn:nX p
 cs:p.bO.length≤n
 ls:∀c∈p.bO,0<c.length∧c.length≤n
 cl:∀c∈p.bO.dropLast,4≤c.length
 fl:p.gd.length≤n
 e3:p.levels=[]
theorem Inv.c{n:Nat}{p:cG}(h:Inv n p)(hn:n≤1000000):FT p:=⟨dX h.cs hn,fun c hc=>⟨(h.ls c hc).1,dX (h.ls c hc).2 hn⟩⟩
theorem VV{l:List (List bp)}(h:l≠[]):l.getLast?=some (l.getLast h):=by
 cases l with
 |nil=>exact absurd rfl h
 |cons a l=>rfl
theorem adz{l:List (List bp)}(h:oL l=true)(bg:∀c∈l.dropLast,4≤c.length):∀c∈l,4≤c.length:=by
 intro c hc;have hne:l≠[]:=List.ne_nil_of_mem hc;rw[←ady hne,E2,J7] at hc;rcases hc with hc|hc
 ·exact bg c hc
 ·unfold oL at h;rw[VV hne] at h;simp only[gy,gH] at h;rw[hc];exact h.1
variable{n:Nat}{p q:cG}
theorem Inv.two(h:Inv n p):oL p.bO=true→∀c∈p.bO,2≤c.length:=fun hc c hm=>dX (by decide) (adz hc h.cl c hm)
theorem Inv.up(h:Inv n p):Inv (n+1) p:=⟨h.bn,IP h.cs,fun c hc=>⟨(h.ls c hc).1,IP (h.ls c hc).2⟩,h.cl,IP h.fl,h.e3⟩
theorem Inv.same(h:Inv n p)(aa:q.top=p.top)(ah:q.levels=p.levels)(ax:q.iX=p.iX)(bg:q.made=p.made)(b7:q.budget=p.budget)(c0:q.gd=p.gd)(ea:q.bO=p.bO)(eO:rU q.at_):Inv n q:=by
 refine⟨⟨?_,?_,?_,?_,?_,?_,eO,?_⟩,?_,?_,?_,?_,?_⟩
 ·rw[aa,ah,bg];exact h.bn.e3
 ·rw[ax,bg];exact h.bn.ap
 ·rw[bg];exact h.bn.BE
 ·rw[bg];exact h.bn.md
 ·rw[b7];exact h.bn.dr
 ·rw[ah];exact h.bn.nk
 ·rw[c0];exact h.bn.fl
 ·rw[ea];exact h.cs
 ·rw[ea];exact h.ls
 ·rw[ea];exact h.cl
 ·rw[c0];exact h.fl
 ·rw[ah];exact h.e3
theorem Inv.none(h:Inv n p):Inv n {p with bO:=[]}:=⟨⟨h.bn.e3,h.bn.ap,h.bn.BE,h.bn.md,h.bn.dr,h.bn.nk,h.bn.at_,h.bn.fl⟩,eC _,fun c hc=>absurd hc (by simp),fun c hc=>absurd hc (by simp),h.fl,h.e3⟩
theorem Inv.iM{n:Nat}{p q:cG}{d:Bool}{s:ey}(h:Inv n p)(aC:el.iM p d s=.ok q):Inv n q:=by have bx:=h.bn.iM aC;obtain⟨rfl,_⟩:=Vd aC;exact⟨bx,h.cs,h.ls,h.cl,h.fl,h.e3⟩
theorem Inv.k3{n:Nat}{p q:cG}{d:Bool}{s:ey}{t:hE}(h:Inv n p)(aC:el.k3 p d s t=.ok q):Inv n q:=by
 unfold el.k3 at aC;split at aC
 ·cases aC
 ·exact h.iM aC
theorem Inv.mb{n:Nat}{f:Bool→Bool}{t:hE}:∀{l:List ec} {p q:cG},Inv n p→el.mb f t l p=.ok q→Inv n q
 |[],p,q,h,aC=>by unfold el.mb at aC;injection aC with aC;exact aC ▸ h
 |o::l,p,q,h,aC=>by
  unfold el.mb at aC;split at aC
  ·cases aC
  ·rename_i r hr;exact Inv.mb (h.k3 hr) aC
theorem Inv.fill(h:Inv n p)(aC:zv p=.ok q):Inv n q:=by
 unfold zv at aC;split at aC
 ·cases aC
 ·split at aC
  ·cases aC
  ·split at aC
   ·injection aC with aC;exact aC ▸ h.none
   ·exact h.none.iM aC
variable{t:bp}
theorem Inv.move(h:Inv n p)(aC:xP p t=.ok q):Inv (n+1) q:=by
 unfold xP at aC;split at aC
 ·injection aC with aC;exact aC ▸ h.up
 ·split at aC
  ·cases aC
  ·rename_i hc;injection aC with aC;subst aC;have hl:oL p.bO=true:=(by cases hx:oL p.bO;exact absurd hx hc;rfl);have aa:=h.up;refine⟨⟨h.bn.e3,h.bn.ap,h.bn.BE,h.bn.md,h.bn.dr,h.bn.nk,h.bn.at_,h.bn.fl⟩,?_,fun c hm=>?_,fun c hm=>?_,aa.fl,h.e3⟩
   ·show (p.bO++[[t]]).length≤n+1;rw[gh];have:=h.cs;simp;omega
   ·have hm:c∈p.bO++[[t]]:=hm;rcases List.mem_append.1 hm with hm|hm
    ·exact aa.ls c hm
    ·rw[J7] at hm;subst hm;exact⟨by simp,by simp⟩
   ·have hm:c∈(p.bO++[[t]]).dropLast:=hm;rw[List.dropLast_concat] at hm;exact adz hl h.cl c hm
variable{c:C}
theorem Inv.draw{r:bp}(h:Inv n p)(aC:wE p c t r=.ok q):Inv (n+1) q:=by
 unfold wE at aC;simp only at aC
 repeat' split at aC
 all_goals first
  |cases aC;done
  |exact (h.iM aC).up
  |(injection aC with aC;exact aC ▸ h.up)
  |skip
 all_goals
  rename_i hne;injection aC with aC;subst aC;have aa:=h.up;have hd:p.bO.dropLast++[p.bO.getLastD []]=p.bO:=(by rw[U5,VV hne];exact ady hne);have hlast:p.bO.getLastD []∈p.bO:=(by rw[U5,VV hne];exact List.getLast_mem hne);refine⟨⟨h.bn.e3,h.bn.ap,h.bn.BE,h.bn.md,h.bn.dr,h.bn.nk,h.bn.at_,h.bn.fl⟩,?_,fun c hm=>?_,fun c hm=>?_,aa.fl,h.e3⟩
  ·show (mc p.bO t).length≤n+1;unfold mc;have:=h.cs;have ah:0<p.bO.length:=List.length_pos_iff.2 hne;rw[gh,Af];simp;omega
  ·have hm:c∈p.bO.dropLast++[p.bO.getLastD [] ++[t]]:=hm;rcases List.mem_append.1 hm with hm|hm
   ·exact aa.ls c (List.dropLast_subset _ hm)
   ·rw[J7] at hm;subst hm;have:=(h.ls _ hlast).2;refine⟨by simp,?_⟩;rw[gh];show _+1≤n+1;omega
  ·have hm:c∈(p.bO.dropLast++[p.bO.getLastD [] ++[t]]).dropLast:=hm;rw[List.dropLast_concat] at hm;exact h.cl c hm
theorem Inv.aoY(h:Inv n p)(aC:wD p t=.ok q):Inv n q:=by
 unfold wD at aC;split at aC
 ·cases aC
 ·split at aC
  ·cases aC
  ·split at aC
   ·exact h.k3 aC
   ·exact h.mb aC
theorem Inv.oper(h:Inv n p)(aC:rr p c=.ok q):Inv (n+1) q:=by
 by_cases hu:p.unit=0∨p.formed=false
 ·unfold rr at aC;rw[aT hu] at aC;cases aC
 have key:∃dm:Nat→Int,w4 p c dm 4:=by
  unfold rr at aC;rw[aK hu] at aC;cases aQ:iY p c.x p.at_.1 with
  |none=>rw[aQ] at aC;cases aC
  |some a=>
   cases aa:iY p c.y p.at_.2 with
   |none=>rw[aQ,aa] at aC;cases aC
   |some b=>
    cases ah:iY p c.i 0 with
    |none=>rw[aQ,aa,ah] at aC;cases aC
    |some d=>
     cases ax:iY p c.j 0 with
     |none=>rw[aQ,aa,ah,ax] at aC;cases aC
     |some e=>
      refine⟨fun|0=>a|1=>b|2=>d|3=>e|_=>0,fun i hi=>?_,fun i hi=>?_⟩
      ·rcases (show i=0∨i=1∨i=2∨i=3 by omega) with rfl|rfl|rfl|rfl
       ·exact aQ
       ·exact aa
       ·exact ah
       ·exact ax
      ·match i,hi with
       |i+4,_=>rfl
 obtain⟨dm,aX⟩:=key;have pO:=aX.rU h.bn.at_;rw[acW hu aX] at aC;have hF:∀r,Inv (n+1) r→Inv (n+1) {r with at_:=(dm 0,dm 1)}:=fun r hr=>hr.same rfl rfl rfl rfl rfl rfl rfl ⟨(pO 0 (by decide)).1,(pO 0 (by decide)).2,(pO 1 (by decide)).1,(pO 1 (by decide)).2⟩;generalize hx:(if c.n=1 then wE p c (dm 0,dm 1) (dm 2,dm 3) else if c.n=2 then xP p (dm 0,dm 1) else if c.n=3 then wD p (dm 0,dm 1) else .error 4)=x at aC;cases x with
 |error k=>cases aC
 |ok r=>
  have aC:Except.ok {r with at_:=(dm 0,dm 1)}=.ok q:=aC;injection aC with aC;rw[←aC];apply hF;split at hx
  ·exact h.draw hx
  ·split at hx
   ·exact h.move hx
   ·split at hx
    ·exact (h.aoY hx).up
    ·cases hx
theorem Inv.define(h:Inv n p)(hn:n<1000000)(aC:EF p c=.ok q):Inv (n+1) q:=by
 have sm:∀r:cG,r.top=p.top→r.levels=p.levels→r.iX=p.iX→r.made=p.made→r.budget=p.budget→r.gd=p.gd→r.bO=p.bO→r.at_=p.at_→Inv (n+1) r:=fun r aa ah ax bg b7 c0 ea eO=>h.up.same aa ah ax bg b7 c0 ea (by rw[eO];exact h.bn.at_);have aa:=h.up;unfold EF at aC;split at aC
 ·split at aC
  ·cases aC
  ·injection aC with aC;subst aC;exact sm _ rfl rfl rfl rfl rfl rfl rfl rfl
 split at aC
 ·split at aC
  ·cases aC
  ·injection aC with aC;subst aC;exact sm _ rfl rfl rfl rfl rfl rfl rfl rfl
 split at aC
 ·split at aC
  ·cases aC
  ·injection aC with aC;subst aC;have hm:(p.gd++[(⟨c.t,c.blocks⟩:ma)]).length≤n+1:=(by rw[gh];have:=h.fl;show _+1≤n+1;omega);exact⟨⟨h.bn.e3,h.bn.ap,h.bn.BE,h.bn.md,h.bn.dr,h.bn.nk,h.bn.at_,by show (p.gd++[(⟨c.t,c.blocks⟩:ma)]).length≤1000000;omega⟩,aa.cs,aa.ls,aa.cl,hm,h.e3⟩
 ·unfold po at aC;split at aC
  ·cases aC
  ·split at aC
   ·cases aC
   ·injection aC with aC;subst aC;refine⟨⟨h.bn.e3,fun k a ha=>?_,h.bn.BE,h.bn.md,h.bn.dr,h.bn.nk,h.bn.at_,h.bn.fl⟩,aa.cs,aa.ls,aa.cl,aa.fl,h.e3⟩;simp only at ha;split at ha
    ·injection ha with ha;subst ha;exact h.bn.BE
    ·exact h.bn.ap k a ha
theorem Inv.set(h:Inv n p)(aC:AT p c=.ok q):Inv (n+1) q:=by
 have sm:∀r:cG,r.top=p.top→r.levels=p.levels→r.iX=p.iX→r.made=p.made→r.budget=p.budget→r.gd=p.gd→r.bO=p.bO→r.at_=p.at_→Inv (n+1) r:=fun r aa ah ax bg b7 c0 ea eO=>h.up.same aa ah ax bg b7 c0 ea (by rw[eO];exact h.bn.at_);unfold AT at aC
 repeat' split at aC
 all_goals first
  |(cases aC;done)
  |(injection aC with aC;subst aC;exact sm _ rfl rfl rfl rfl rfl rfl rfl rfl)
theorem Inv.do(h:Inv n p)(hn:n<1000000)(ab:(c.k=1∨c.k=18)∨(c.k=8∨c.k=9∨c.k=10∨c.k=19)∨(c.k=2∨c.k=4∨c.k=6∨c.k=15∨c.k=16∨c.k=17)∨c.k=7∨c.k=3∨c.k=5)(aC:lP p c=.ok q):Inv (n+1) q:=by
 have sm:∀r:cG,r.top=p.top→r.levels=p.levels→r.iX=p.iX→r.made=p.made→r.budget=p.budget→r.gd=p.gd→r.bO=p.bO→r.at_=p.at_→Inv (n+1) r:=fun r aa ah ax bg b7 c0 ea eO=>h.up.same aa ah ax bg b7 c0 ea (by rw[eO];exact h.bn.at_);unfold lP at aC;by_cases aI:p.ended=true
 ·rw[aT aI] at aC;cases aC
 rw[aK aI] at aC;by_cases c2:p.region=true∧(c.k=6∨11≤c.k∧c.k≤17)
 ·rw[aT c2] at aC;cases aC
 rw[aK c2] at aC;by_cases c3:c.k=1∨c.k=18
 ·rw[aT c3] at aC;injection aC with aC;exact aC ▸ h.up
 rw[aK c3] at aC;by_cases bF:c.k=8∨c.k=9∨c.k=10∨c.k=19
 ·rw[aT bF] at aC;exact h.define hn aC
 rw[aK bF] at aC;by_cases c5:c.k=2∨c.k=4∨c.k=6∨c.k=15∨c.k=16∨c.k=17
 ·rw[aT c5] at aC;exact h.set aC
 rw[aK c5] at aC;by_cases b1:c.k=3
 ·rw[aT b1] at aC;by_cases b5:p.region=c.on
  ·rw[aT b5] at aC;cases aC
  rw[aK b5] at aC;by_cases bS:c.on=true
  ·rw[aT bS] at aC;injection aC with aC;subst aC;exact sm _ rfl rfl rfl rfl rfl rfl rfl rfl
  ·rw[aK bS] at aC;exact ((h.same (q:={p with region:=false}) rfl rfl rfl rfl rfl rfl rfl h.bn.at_).fill aC).up
 rw[aK b1] at aC;by_cases b5:c.k=7
 ·rw[aT b5] at aC;exact h.oper aC
 rw[aK b5,aK (by omega),aK (by omega),aK (by omega),aK (by omega),aT (by omega)] at aC;by_cases bS:p.region=true∨p.levels≠[]
 ·rw[aT bS] at aC;cases aC
 rw[aK bS] at aC;injection aC with aC;subst aC;exact sm _ rfl rfl rfl rfl rfl rfl rfl rfl
end dE
namespace dE
open Go.RowKit el
open cf (C eI)
open jj (kd jk fa hB)
abbrev Ml(k:Int):Prop:=(k=1∨k=18)∨(k=8∨k=9∨k=10∨k=19)∨(k=2∨k=4∨k=6∨k=15∨k=16∨k=17)∨k=7∨k=3∨k=5
theorem II.below{w0 w w':bTo}{bj:bk}{c7:List Int}{nq:aya}{bC:Nat}{u:Int}{ms:List ma}(h:II w0 w bj c7 nq bC u ms)(af:av w w w'):II w0 w' bj c7 nq bC u ms:=fun Z fj bz aa ah ax bg=>h Z fj bz (af.trans (aa.mono af.size)) ah ax bg
theorem aoZ(w0:bTo)(P:Nat)(p:cG)(B n:Nat)(c:C)(ca:Int)(nq:aya)(qY:Nat)(mr:aya)(Ao:Nat)(w:bTo)(H:J (lF w0 P p w))(hi:Inv n p)(hn:n<1000000)(Al:J (fa B w nq c.cj))(gp:c.cj.length≤1000000000)(oG:∀x∈c.cj,-4611686018427387904≤x∧x≤4611686018427387904)(lG:J (hB 0 w0 mr c.blocks))(k9:J (∀i,(lH c.x c.y c.i c.j i).length≤1000000000))(Qs:c.k=10→II w0 w c.t c.cj nq qY p.unit p.gd)(ab:Ml c.k)(res:Except Nat cG)(dk:J (lP p c=res)):
  Calls Tryz.prog 64 #[dv P 0,kd c ca (ad nq c.cj.length qY) (ad mr c.blocks.length Ao)] w fun e w'=>fm w0 P res e w':=by
 have TX:=hi.c (CY hn);obtain⟨cN,cn,cC,db,bj,dZ,d',dO,bn,c7,hq⟩:=c;refine aoV w0 P p ca cN cn cC db bj dZ d' dO bn c7 hq (ad nq c7.length qY) (ad mr hq.length Ao) w H hi.bn TX hi.two ?_ ?_ ?_ ab res dk
 ·intro aX Z eU;have aV:=U (H.out.below eU);rcases aX with rfl|rfl|rfl|rfl
  ·exact an9 w0 P p ca cn cC db bj dZ d' dO bn _ _ Z aV _ (U (Eq.refl _))
  ·exact aob w0 P p ca cn cC db bj dZ d' dO bn _ _ Z aV _ (U (Eq.refl _))
  ·refine aot w0 P p B ca cn cC db bj dZ d' dO bn c7 nq qY _ Z aV (Al.out.below eU) gp ((Qs rfl).below eU) hi.bn.Iw _ ?_;show _=po p _;unfold po;simp only;split
   ·rfl
   ·cases hx:oK bj c7 p.unit p.gd with
    |error e=>rfl
    |ok x=>rfl
  ·exact aol w0 P p ca cn cC db bj dZ d' dO bn _ hq mr Ao Z aV lG hi.bn.fl _ (U (Eq.refl _))
 ·intro aX Z eU;exact an7 w0 P p B ⟨cN,cn,cC,db,bj,dZ,d',dO,bn,c7,hq⟩ ca nq qY _ Z (H.out.below eU) (Al.out.below eU) gp oG aX _ (U (Eq.refl _))
 ·intro aX Z eU;exact an0 w0 P p ⟨cN,cn,cC,db,bj,dZ,d',dO,bn,c7,hq⟩ ca _ _ Z (H.out.below eU) TX hi.bn k9 _ (U (Eq.refl _))
end dE
namespace jj
open Go.RowKit pH kG qk Mem rG cf
def ub(l:List C):List (Nat×C):=l.map fun c=>(0,c)
def VW(res:Except Nat (List C))(w:bTo)(e:Ending)(w':bTo):Prop:=Below w.heap.size w w'∧match res with
 |.ok l=>∃v,e=bb (.tuple #[v,I 0])∧jX w.heap.size w' v (ub l)
 |.error k=>e=bb (.tuple #[cc,I (k:Int)])
theorem ao0(c:C)(hn:c.cj=[])(af:c.blocks=[])(w:bTo):
  Calls Tryz.prog 93 #[kd c 0 cc cc] w (VW (.ok [c]) w):=by
 have a1:=U hn;have aH:=U af;clear hn af;unfold kd jk;have dC:J (jX w.heap.size ((w.alloc (aD (#[I 0,I c.k,I c.n,I c.m,ai c.on,au ⟨c.t.toArray⟩,au ⟨c.x.toArray⟩,au ⟨c.y.toArray⟩,au ⟨c.i.toArray⟩,au ⟨c.j.toArray⟩,cc,cc]) 104)).alloc (aD (#[I 0,I c.k,I c.n,I c.m,ai c.on,au ⟨c.t.toArray⟩,au ⟨c.x.toArray⟩,au ⟨c.y.toArray⟩,au ⟨c.i.toArray⟩,au ⟨c.j.toArray⟩,cc,cc]) 104)) (bG (w.heap.size+1) 0 1 1) (ub [c])):=by have h:=gi (w.alloc (aD (#[I 0,I c.k,I c.n,I c.m,ai c.on,au ⟨c.t.toArray⟩,au ⟨c.x.toArray⟩,au ⟨c.y.toArray⟩,au ⟨c.i.toArray⟩,au ⟨c.j.toArray⟩,cc,cc]) 104)) (aD (#[I 0,I c.k,I c.n,I c.m,ai c.on,au ⟨c.t.toArray⟩,au ⟨c.x.toArray⟩,au ⟨c.y.toArray⟩,au ⟨c.i.toArray⟩,au ⟨c.j.toArray⟩,cc,cc]) 104);rw[show (w.alloc (aD (#[I 0,I c.k,I c.n,I c.m,ai c.on,au ⟨c.t.toArray⟩,au ⟨c.x.toArray⟩,au ⟨c.y.toArray⟩,au ⟨c.i.toArray⟩,au ⟨c.j.toArray⟩,cc,cc]) 104)).heap.size=w.heap.size+1 by simp] at h;refine⟨_,⟨rfl,.inr ⟨w.heap.size+1,1,_,rfl,l4 _,h,bD _,by unfold maxLen;omega,rfl,?_⟩⟩,.cons (p:=none) (q:=none) (k:=0) (m:=0) (by rw[a1.out];exact fa.nil _ _ _) (by rw[aH.out];exact hB.nil _ _ _) .nil⟩;simp only[a1.out,aH.out];rfl
 have fp:J (av w w ((w.alloc (aD (#[I 0,I c.k,I c.n,I c.m,ai c.on,au ⟨c.t.toArray⟩,au ⟨c.x.toArray⟩,au ⟨c.y.toArray⟩,au ⟨c.i.toArray⟩,au ⟨c.j.toArray⟩,cc,cc]) 104)).alloc (aD (#[I 0,I c.k,I c.n,I c.m,ai c.on,au ⟨c.t.toArray⟩,au ⟨c.x.toArray⟩,au ⟨c.y.toArray⟩,au ⟨c.i.toArray⟩,au ⟨c.j.toArray⟩,cc,cc]) 104))):=((Below.refl _ _).alloc (bD _) _).alloc (by simp) _;go_enter Tryz.func93,Tryz.ntmps93;go_wp2_with fail;go_ret2;exact⟨fp.out,_,rfl,dC.out⟩
theorem VX(k n m:Int)(on:Bool)(t x y i j:bk)(w:bTo):
  Calls Tryz.prog 93 #[.agg #[I 0,I k,I n,I m,ai on,au ⟨t.toArray⟩,au ⟨x.toArray⟩,au ⟨y.toArray⟩,au ⟨i.toArray⟩,au ⟨j.toArray⟩,ay 0,ay 0]] w (VW (.ok [⟨k,n,m,on,t,x,y,i,j,[],[]⟩]) w):=
 ao0 ⟨k,n,m,on,t,x,y,i,j,[],[]⟩ rfl rfl w
theorem ao1(S P:aia):∃(R:aia) (b:Bool),∀w,Calls Tryz.prog 89 #[au S,au P] w fun e w'=>e=bb (.tuple #[au R,ai b])∧w=w':=
 ⟨_,_,fun w=>(Uu S P w).mono fun e w' ⟨he,hw⟩=>⟨he,hw.symm⟩⟩
def IQ(cs:List C):Option C→Except Nat (List C)
 |none=>.error 3
 |some c=>.ok (cs++[c])
theorem ao2(t:bk)(x:C)(l:List C):rp t (x::l)=IQ (x::l) (tu t):=by unfold rp IQ;rw[aK (by rintro⟨_,_,h⟩;cases h)];rfl
variable{t:bk}
theorem ao3(h:¬(t≠[]∧t.headD 0=68)):rp t []=IQ [] (tu t):=by unfold rp IQ;rw[aK (fun aF=>h ⟨aF.1,aF.2.1⟩)];rfl
theorem ao4{r:bk}:rp (68::r) []=match wv r with|some n=>.ok [{b2 6 with n:=(n:Int)}]|none=>IQ [] (tu (68::r)):=by unfold rp IQ;rw[aT ⟨by simp,rfl,rfl⟩];rfl
theorem ao5{B D:Nat}{w:bTo}{v:ada}{l:List (Nat×C)}(h:jX B w v l)(bZ:D≤B):jX D w v l:=by
 obtain⟨xs,aa,ah⟩:=h;refine⟨xs,⟨aa.1,?_⟩,ah.imp (fun _ _ g=>g.mono bZ) (fun _ _ g=>g.mono bZ)⟩;rcases aa.2 with g|⟨b,c,cur,aN,aR,cA⟩
 ·exact .inl g
 ·exact .inr ⟨b,c,cur,aN,dX bZ aR,cA⟩
theorem QA(w:bTo)(a b:Obj):((w.alloc a).alloc b).heap[w.heap.size+1]?=some b:=by have h:=gi (w.alloc a) b;rw[show (w.alloc a).heap.size=w.heap.size+1 by simp] at h;exact h
def gk:Nat→List UInt8
 |0=>[71,48,49]
 |1=>[71,48,50]
 |_=>[71,48,51]
theorem ao6{X:aia}(h:J (X.size≤1000000000)):∃Y,X=Y∧J (Y.size≤1000000000):=⟨_,rfl,h⟩
def Mm(t:bk):Except Nat (List C):=if t.take 3=gk 0 then uK t 1 else if t.take 3=gk 1 then uK t 2 else if t.take 3=gk 2 then uK t 3 else rp t []
theorem ao7{k:Nat}(ab:k<3)(h:∀j,j<k→t.take 3≠gk j)(p:t.take 3=gk k):Mm t=uK t ((k:Int)+1):=by
 unfold Mm;rcases (show k=0∨k=1∨k=2 by omega) with rfl|rfl|rfl
 ·rw[aT p];rfl
 ·rw[aK (h 0 (by decide)),aT p];rfl
 ·rw[aK (h 0 (by decide)),aK (h 1 (by decide)),aT p];rfl
theorem ao8(h:∀j,j<3→t.take 3≠gk j):Mm t=rp t []:=by unfold Mm;rw[aK (h 0 (by decide)),aK (h 1 (by decide)),aK (h 2 (by decide))]
theorem VY(k:Nat):(gk k).length=3:=by unfold gk;split<;>rfl
abbrev QB:Value:=.agg #[I 0,I 0,I 0,I 0,ai false,au ⟨#[]⟩,au ⟨#[]⟩,au ⟨#[]⟩,au ⟨#[]⟩,au ⟨#[]⟩,ay 0,ay 0]
abbrev IS:Obj:=.cells #[au ⟨#[71,48,49]⟩,au ⟨#[71,48,50]⟩,au ⟨#[71,48,51]⟩] 9
theorem ao9{w:bTo}{b k:Nat}(h:w.heap[b]?=some IS)(ab:k<3):aw w b k (au ⟨(gk k).toArray⟩):=by rcases (show k=0∨k=1∨k=2 by omega) with rfl|rfl|rfl<;>simp[World.cell?,h,gk]
theorem apa(S:aia)(hs:S.size≤1000000000)(res:Except Nat (List C))(hr:J (wy S.data.toList=res))(w:bTo):
    Calls Tryz.prog 63 #[au S] w (VW res w):=by
  have cF:=U hs;have aj:=hr.out;clear hr hs;by_cases hm:S.data.toList∈([[71,51,54],[71,51,55],[71,55,52],[71,55,53],[77,48,50]]:List (List UInt8))
  · simp only[vf,vg,vh] at hm
    rcases hm with h|h|h|h|h
    all_goals
      have E:∀p,(S.toList==p)=decide (S.data.toList=p):=fun p=>e2 S p;rw[h] at E aj;have br:=U aj;first|have aN:(S.toList==[71,51,54])=true:=E _|have aN:(S.toList==[71,51,54])=false:=E _
      first|have aR:(S.toList==[71,51,55])=true:=E _|have aR:(S.toList==[71,51,55])=false:=E _
      first|have cA:(S.toList==[71,55,52])=true:=E _|have cA:(S.toList==[71,55,52])=false:=E _
      first|have hN:(S.toList==[71,55,53])=true:=E _|have hN:(S.toList==[71,55,53])=false:=E _
      first|have mC:(S.toList==[77,48,50])=true:=E _|have mC:(S.toList==[77,48,50])=false:=E _
      clear h aj E;go_enter Tryz.func63,Tryz.ntmps63;go_wp2_with fail
      first
        | (go_fit (VX _ _ _ _ [] [] [] [] [] _)
           rintro e cr ⟨af,v,rfl,hc⟩;have bq:=U (And.intro af hc);clear af hc;go_wp2_with fail;go_ret2;rw[←br.out];exact⟨bq.out.1,_,rfl,bq.out.2⟩)
        | (go_ret2
           rw[←br.out];exact⟨Below.refl _ _,rfl⟩)
  have F:∀p,p∈([[71,51,54],[71,51,55],[71,55,52],[71,55,53],[77,48,50]]:List (List UInt8))→(S.toList==p)=false:=(fun p hp=>by rw[e2];exact eD fun h=>hm (h ▸ hp));have aN:=F [71,51,54] (by decide);have aR:=F [71,51,55] (by decide);have cA:=F [71,55,52] (by decide);have hN:=F [71,55,53] (by decide);have mC:=F [77,48,50] (by decide);have kb:(if S.data.toList.take 3=[71,48,52] then .ok [{b2 1 with t:=S.data.toList.drop 3}] else Mm S.data.toList)=res:=(by rw[←aj];unfold wy;simp only[vf,vg,vh,not_or] at hm;rw[aK hm.1,aK hm.2.1,aK hm.2.2.1,aK hm.2.2.2.1,aK hm.2.2.2.2];rfl);clear aj hm F;by_cases fI:S.data.toList.take 3=[71,48,52]
  · rw[aT fI] at kb
    have br:=U kb;have bL:J (S.data.toList=(⟨#[71,48,52]⟩:aia).data.toList++S.data.toList.drop 3):=Uv (p:=[71,48,52]) fI;clear kb fI;go_enter Tryz.func63,Tryz.ntmps63;go_wp2_with fail;go_fit (qn _ _ _ bL _);rintro e cr ⟨rfl,rfl⟩;go_wp2_with fail;go_fit (VX 1 0 0 false (S.data.toList.drop 3) [] [] [] [] _);rintro e cr ⟨af,v,rfl,hc⟩;have bq:=U (And.intro af hc);clear af hc;go_wp2_with fail;go_ret2;rw[←br.out];exact⟨bq.out.1,_,rfl,bq.out.2⟩
  rw[aK fI] at kb;have bL:J (∀r,S.data.toList≠(⟨#[71,48,52]⟩:aia).data.toList++r):=Uw (p:=[71,48,52]) fI;clear fI;have dR:=U kb;clear kb;obtain⟨i0,lg,cU,cW,dz⟩:=info_parts abK;have bY:=U (And.intro lg (And.intro cU (And.intro cW dz)));clear lg cU cW dz;go_enter Tryz.func63,Tryz.ntmps63;go_wp2_with fail;go_fit (Dk _ _ bL _);rintro e cr ⟨rfl,rfl⟩;have bB:J ((w.alloc IS).heap[w.heap.size]?=some IS):=gi w _;have aH:J (av w w (w.alloc IS)):=(Below.refl _ _).alloc (bD _) _;go_wp2_with fail;change Code.wp _ _ _ _ (w.alloc IS);generalize w.alloc IS=bQ at bB aH⊢
  go_loopw [0,6,54] (fun t c i wr=>∃(k:Nat) (BS:bTo),BS=wr∧BS=bQ∧k≤3∧J (∀j,j<k→S.data.toList.take 3≠gk j)∧t=au S∧c=ay 0∧i=I (k:Int)) (fun _ _ i _=>3 -(intOf i).toNat)
  case atStart=>exact⟨0,_,rfl,rfl,by omega,fun j h=>absurd h (l7 j),rfl,rfl,rfl⟩
  case round=>
  obtain⟨k,BS,rfl,apb,ab,a1,rfl,rfl,rfl⟩:=hrel;subst apb;by_cases p5:k<3
  case' pos=>
    have rM:(k:Int)<3:=(by omega);have nR:(0:Int)≤(k:Int):=(by omega);have m0:=ao9 bB.out p5;by_cases er:S.data.toList.take 3=gk k
    case neg=>
      have gN:J (∀r,S.data.toList≠(⟨(gk k).toArray⟩:aia).data.toList++r):=Uw (p:=gk k) (by rw[VY];exact er)
      have sT:J (∀j,j<k+1→S.data.toList.take 3≠gk j):=fun j cB=>by
        by_cases e:j=k
        · rw[e];exact er
        · exact a1.out j (by omega)
      clear er;go_wp2_with fail;go_fit (Dk _ _ gN _);rintro e cr ⟨rfl,rfl⟩;go_wp2_with fail;go_round<;>first|exact⟨k+1,_,rfl,rfl,by omega,sT.out,rfl,rfl,by go_num⟩|(simp[intOf]<;>omega)
    obtain⟨X,dp⟩:=kz (S.data.toList.drop 3);have aC:uK S.data.toList ((k:Int)+1)=res:=(ao7 p5 a1.out er).symm.trans dR.out;unfold uK at aC;have bL:J (S.data.toList=(⟨(gk k).toArray⟩:aia).data.toList++X.data.toList):=(by have h:=Uv (l:=S.data.toList) (p:=gk k) (by rw[VY];exact er);rw[VY] at h;show _=_;rw[dp];exact h);rw[←dp] at aC;have cV:J (X.size≤1000000000):=(by show X.size≤_;have aa:=gb List.length dp;rw[cR,gZ,cR] at aa;have:=cF.out;omega);clear er dp;by_cases Dm:X.data.toList=[]
    case pos=>
      rw[aT Dm] at aC;have a7:=U aC;have apc:(X.toList==[])=true:=(by rw[e2];exact eH Dm);clear aC Dm;go_wp2_with fail;go_fit (qn _ _ _ bL _);rintro e cr ⟨rfl,rfl⟩;rw[qm];go_wp2_with ((at_builtin;refine yi _ rfl _ _ _ rfl w.heap.size 104 i0 QB 12 168 Mk bY.out.1 bY.out.2.1 bY.out.2.2.1 bY.out.2.2.2 rfl (by omega) (ay 0) 0 [] (by rfl) ⟨rfl,.inl ⟨rfl,rfl⟩⟩ (ag BS.heap.size 0) 1 1 [I 0,I 2,I ((k:Int)+1),I 0,ai false,au ⟨#[]⟩,au ⟨#[]⟩,au ⟨#[]⟩,au ⟨#[]⟩,au ⟨#[]⟩,ay 0,ay 0] (by rfl) rfl (jW (gi BS _)) (by simp[Value.oneCell']) (by unfold maxLen;omega) (by omega) (by have:=aH.out.size;simp;omega) ?_;intro v' w' gX i' pJ;obtain⟨g',mE,rfl,_,_⟩:=gX.form (by omega);have cT:J (jX w.heap.size w' (bG g' 0 (0+1) mE) (ub [{b2 2 with n:=(k:Int)+1}])∧av w w w'):=⟨jX.push (l:=[]) (xs:=[]) (v:=ay 0) (x:=(0,{b2 2 with n:=(k:Int)+1})) (p:=none) (q:=none) (k:=0) (m:=0) ⟨rfl,.inl ⟨rfl,rfl⟩⟩ .nil (fa.nil _ _ _) (hB.nil _ _ _) ((Below.refl _ _).alloc (bD _) _) i' gX,(aH.out.alloc aH.out.size _).grown i' (by have:=aH.out.size;simp;omega) (fun k ab=>by simp[Value.ownBlock] at ab)⟩;clear gX i' pJ));go_ret2;rw[←a7.out];exact⟨cT.out.2,_,rfl,cT.out.1⟩
    rw[aK Dm,ao2] at aC;have mN:=U aC;have apc:(X.toList==[])=false:=(by rw[e2];exact eD Dm);clear aC Dm;obtain⟨axe,b,adA⟩:=ao1 X ⟨#[68]⟩;go_wp2_with fail;go_fit (qn _ _ _ bL _);rintro e cr ⟨rfl,rfl⟩;rw[qm];go_wp2_with ((at_builtin;refine yi _ rfl _ _ _ rfl w.heap.size 104 i0 QB 12 168 Mk bY.out.1 bY.out.2.1 bY.out.2.2.1 bY.out.2.2.2 rfl (by omega) (ay 0) 0 [] (by rfl) ⟨rfl,.inl ⟨rfl,rfl⟩⟩ (ag BS.heap.size 0) 1 1 [I 0,I 2,I ((k:Int)+1),I 0,ai false,au ⟨#[]⟩,au ⟨#[]⟩,au ⟨#[]⟩,au ⟨#[]⟩,au ⟨#[]⟩,ay 0,ay 0] (by rfl) rfl (jW (gi BS _)) (by simp[Value.oneCell']) (by unfold maxLen;omega) (by omega) (by have:=aH.out.size;simp;omega) ?_;intro v' w' gX i' pJ;obtain⟨g',mE,rfl,_,_⟩:=gX.form (by omega);have cT:J (jX w.heap.size w' (bG g' 0 (0+1) mE) (ub [{b2 2 with n:=(k:Int)+1}])∧av w w w'):=⟨jX.push (l:=[]) (xs:=[]) (v:=ay 0) (x:=(0,{b2 2 with n:=(k:Int)+1})) (p:=none) (q:=none) (k:=0) (m:=0) ⟨rfl,.inl ⟨rfl,rfl⟩⟩ .nil (fa.nil _ _ _) (hB.nil _ _ _) ((Below.refl _ _).alloc (bD _) _) i' gX,(aH.out.alloc aH.out.size _).grown i' (by have:=aH.out.size;simp;omega) (fun k ab=>by simp[Value.ownBlock] at ab)⟩;clear gX i' pJ));go_fit (adA _);rintro e dJ ⟨rfl,rfl⟩;clear adA;cases b;all_goals go_wp2_with fail
  case' neg=>
    have aC:rp S.data.toList []=res:=(ao8 (fun j cB=>a1.out j (by omega))).symm.trans dR.out;have cT:J (jX w.heap.size BS (ay 0) (ub [])∧av w w BS):=⟨jX.nil _ _,aH.out⟩;obtain rfl:k=3:=(by omega);have cV:=cF;by_cases bZ:S.data.toList≠[]∧S.data.toList.headD 0=68
    case' pos=>
      obtain⟨r,hr⟩:∃r,S.data.toList=68::r:=by
        cases hS:S.data.toList with
        |nil=>exact absurd hS bZ.1
        |cons a r=>
          have ah:=bZ.2;rw[hS] at ah;exact⟨r,by rw[show a=68 from ah]⟩
      obtain⟨T,fh⟩:=kz r;rw[←fh] at hr;rw[hr,ao4,←hr] at aC;have bL:J (S.data.toList=(⟨#[68]⟩:aia).data.toList++T.data.toList):=hr;have dF:J (T.size≤maxLen):=(by show T.size≤_;have aa:=gb List.length hr;rw[fK,cR,cR] at aa;have:=cF.out;unfold maxLen;omega);obtain⟨Mn,Gc⟩:∃Mn,wv T.data.toList=Mn:=⟨_,rfl⟩;have VZ:=U Gc;rw[Gc] at aC;have mN:=U aC;clear Gc bZ hr fh aC;go_wp2_with fail;go_fit (qn _ _ _ bL _);rintro e cr ⟨rfl,rfl⟩;rw[qm];go_wp2_with fail;go_fit (Ux T dF.out _ VZ _);rintro e dJ ⟨hc,rfl⟩;cases Mn
      case some n=>
        obtain rfl:e=bb (.tuple #[I ((n:Nat):Int),ai true]):=hc;go_wp2_with fail;go_fit (VX 6 n 0 false [] [] [] [] [] _);rintro e cb ⟨af,v,rfl,hc⟩;have bq:=U (And.intro af hc);clear af hc;go_wp2_with fail;go_ret2;rw[←mN.out];exact⟨cT.out.2.trans (bq.out.1.mono cT.out.2.size),_,rfl,ao5 bq.out.2 cT.out.2.size⟩
      obtain rfl:e=bb (.tuple #[I ((0:Nat):Int),ai false]):=hc;go_wp2_with fail
    case' neg=>
      rw[ao3 bZ] at aC;have bL:J (∀r,S.data.toList≠(⟨#[68]⟩:aia).data.toList++r):=fun r hr=>bZ (by rw[hr];exact⟨by simp,rfl⟩);have mN:=U aC;clear aC bZ;go_wp2_with fail;go_fit (Dk _ _ bL _);rintro e cr ⟨rfl,rfl⟩;go_wp2_with fail
  all_goals
    obtain⟨Y,ih,cq⟩:=ao6 cV;have aC:=mN.out;rw[ih] at aC⊢;obtain⟨xX,V0⟩:∃xX,tu Y.data.toList=xX:=⟨_,rfl⟩;have apd:=U V0;rw[V0] at aC;have a7:=U aC;clear V0 aC ih;go_fit (al5 Y cq.out xX apd _);rintro e bt ⟨dT,c,p,di,rfl,hn,sU,hd⟩;unfold kd jk;have ek:=U (cT.out.2.trans (dT.mono cT.out.2.size));cases xX with
    |none=>
      clear dT hn sU hd;go_wp2_with fail;go_ret2;rw[←a7.out];exact⟨ek.out.alloc ek.out.size _,rfl⟩
    |some d=>
      obtain rfl:=hd d rfl;have Mo:=U (cT.out.1.below dT);have yL:=U (And.intro (hn.mono cT.out.2.size) sU);obtain⟨xs,uc,adB⟩:=Mo.out;have rT:=U uc;have zo:=U adB;clear dT hn sU hd uc adB;go_wp2_with ((at_builtin;(first|refine yi _ rfl _ _ _ rfl w.heap.size 104 i0 QB 12 168 Mk bY.out.1 bY.out.2.1 bY.out.2.2.1 bY.out.2.2.2 rfl (by omega) (.slice none 0 0) 0 xs (by rfl) (fE rT.out (((Below.refl _ _).alloc (bD _) _).alloc (by simp) _)) ⟨bt.heap.size+1,0,none⟩ 1 1 [.int .i64 0,.int .i64 d.k,.int .i64 d.n,.int .i64 d.m,.bool d.on,.string ⟨d.t.toArray⟩,.string ⟨d.x.toArray⟩,.string ⟨d.y.toArray⟩,.string ⟨d.i.toArray⟩,.string ⟨d.j.toArray⟩,.slice p d.cj.length di,cc] (by rfl) rfl (jW (QA bt _ _)) (by simp[Value.oneCell']) (by unfold maxLen;omega) (by omega) (by have:=ek.out.size;simp;omega) ?_|refine yi _ rfl _ _ _ rfl w.heap.size 104 i0 QB 12 168 Mk bY.out.1 bY.out.2.1 bY.out.2.2.1 bY.out.2.2.2 rfl (by omega) (.slice (some ⟨g',0,none⟩) (0+1) mE) 1 xs (by rfl) (fE rT.out (((Below.refl _ _).alloc (bD _) _).alloc (by simp) _)) ⟨bt.heap.size+1,0,none⟩ 1 1 [.int .i64 0,.int .i64 d.k,.int .i64 d.n,.int .i64 d.m,.bool d.on,.string ⟨d.t.toArray⟩,.string ⟨d.x.toArray⟩,.string ⟨d.y.toArray⟩,.string ⟨d.i.toArray⟩,.string ⟨d.j.toArray⟩,.slice p d.cj.length di,cc] (by rfl) rfl (jW (QA bt _ _)) (by simp[Value.oneCell']) (by unfold maxLen;omega) (by omega) (by have:=ek.out.size;simp;omega) ?_);intro v' w' gX i' pJ;obtain⟨g2,il,rfl,_,_⟩:=gX.form (by omega);have aE:=U (And.intro (jX.push (xs:=xs) (x:=(0,d)) (p:=p) (q:=none) (k:=di) (m:=0) rT.out zo.out yL.out.1 (by rw[yL.out.2];exact hB.nil _ _ _) (((Below.refl _ _).alloc (bD _) _).alloc (by simp) _) i' (by rw[yL.out.2];exact gX)) (((ek.out.alloc ek.out.size _).alloc (dX ek.out.size (by simp)) _).grown i' (by have:=ek.out.size;simp;omega) (fun k ab=>(rT.out.lt _ ab).1)));clear gX i' pJ));go_ret2;rw[←a7.out];exact⟨aE.out.2,_,rfl,aE.out.1⟩
end jj
