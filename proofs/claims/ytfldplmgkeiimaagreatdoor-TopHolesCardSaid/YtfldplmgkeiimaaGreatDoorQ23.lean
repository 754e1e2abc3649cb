/- Lemmas. -/
import Derived.Test.YtfldplmgkeiimaaGreatDoorQ22
set_option linter.all false
set_option maxRecDepth 100000
set_option maxHeartbeats 12800000
namespace Go.Proofs.YtfldplmgkeiimaaGreatDoor
abbrev Vw:=@Int.natCast_nonneg
namespace Iz
open Go.RowKit kG pH qk wq
theorem anT(s:aia)(u i d:Int)(t:Bool)(hs:s.size≤9223372036854775807)(w:bTo):
  Calls Tryz.prog 146 #[au s,IA u i d t] w fun e w'=>e=bb (.tuple #[I ((lB s.data.toList u i d t).getD 0),ai (lB s.data.toList u i d t).isSome])∧av w w w':=by
 cases hf:si u i d with
 |false=>
  have iE:lB s.data.toList u i d t=none:=Qg (fun h=>by rw[hf] at h;cases h.1);have a1:=U iE;have aE:=U hf;clear iE hf;go_enter Tryz.func146,Tryz.ntmps146;go_wp2_with fail;refine (Qf u i d t false aE _).mono ?_;rintro e w' ⟨rfl,rfl⟩;go_wp2_with fail;go_ret2;rw[a1.out];exact⟨rfl,((Below.refl _ _).alloc (bD _) _).alloc (by simp) _⟩
 |true=>
  have zm:=(Sx u i d).1 hf;obtain⟨eo,rfl⟩:∃eo:Nat,i=eo:=⟨i.toNat,by omega⟩;obtain⟨D,rfl⟩:∃D:Nat,d=D:=⟨d.toNat,by omega⟩;have ES:eo≤6:=(by omega);have bZ:D≤6:=(by omega);have aE:=U hf;clear hf zm;go_enter Tryz.func146,Tryz.ntmps146;go_wp2_with fail;refine (Qf u eo D t true aE _).mono ?_;rintro e w' ⟨rfl,rfl⟩;go_upto_region 4 with fail;go_cut [24] (fun c fT=>c=ai (zZ s.data.toList)∧(w.alloc (BK u eo D t)).alloc (BK u eo D t)=fT)
  case first=>
   by_cases aQ:0<s.size
   ·have aH:=U (Ur s aQ);have hne:s.toList.isEmpty=false:=(by rw[oY,Bw s aQ];rfl);have HY:¬s.toList=[]:=(by intro h;rw[h] at hne;cases hne);by_cases De:s[0].toNat=43
    all_goals
     go_wp2;go_meet;refine⟨gb Value.bool ?_,rfl⟩;rw[aH.out];simp[De,PF];try omega
   ·have aH:=U (Us s aQ);have hne:s.toList=[]:=(by rw[oY];exact Uq s aQ);go_wp2;go_meet;exact⟨gb Value.bool aH.out.symm,rfl⟩
  case rest=>
   obtain⟨rfl,rfl⟩:=hcut;go_upto_if 24 with fail;go_cut [0,6] (fun a b fT=>∃T:aia,a=au T∧T.size≤9223372036854775807∧T.data.toList=(strip s.data.toList).2∧b=ai (strip s.data.toList).1∧(w.alloc (BK u eo D t)).alloc (BK u eo D t)=fT)
   case first=>
    cases aX:zZ s.data.toList with
    |true=>
     have aQ:=aa2 aX;have cF:=U (aa1 s aQ aX);clear aX;go_wp2;go_meet;rw[cF.out];exact⟨_,rfl,by simp;omega,aaZ s,gb Value.bool (PF _),rfl⟩
    |false=>
     have cF:=U (aa0 aX);clear aX;go_wp2;go_meet;rw[cF.out];exact⟨_,rfl,hs,rfl,rfl,rfl⟩
   case rest=>
    obtain⟨T,rfl,bH,aj,rfl,rfl⟩:=hcut;have KL:av w w ((w.alloc (BK u eo D t)).alloc (BK u eo D t)):=((Below.refl _ _).alloc (bD _) _).alloc (by simp) _;have vi:=U KL;clear KL;obtain⟨l,rF⟩:=az T.data.toList;have hlen:l.length=T.size:=(by rw[←rF];simp);have yB:(strip s.data.toList).2=l:=(by rw[←aj,rF]);by_cases aa:1≤T.size
    ·by_cases ah:T.size≤eo+D
     ·by_cases ax:bC l=l.length
      ·have Vx:=anR (t:=t) ⟨aE.out,by rw[yB];omega,by rw[yB];omega,by rw[yB];exact ax⟩;rw[yB] at Vx;have aS:=anS ax;have acI:val l<10^T.size:=(by rw[←hlen];exact aS);have cq:=U Vx;have cS:=U ax;have dR:=U rF;have cd:=U acI;have nb:=U hlen;clear Vx ax aj rF aS acI yB hlen;generalize (strip s.data.toList).1=b at cq⊢;go_wp2_with fail
       go_loop [8,46] (fun v i=>∃(k:Nat) (x:Int),k≤T.size∧0≤x∧x<1000000000000∧x=val (l.take k)∧i=I k∧v=I x) (fun _ i=>T.size -(intOf i).toNat)
       case atStart=>exact⟨0,0,eC _,by omega,by omega,rfl,rfl,rfl⟩
       case round=>
        obtain⟨k,x,ab,sK,mm,hx,rfl,rfl⟩:=hrel;by_cases b0:k<T.size
        ·have acJ:fi T[k]=true:=(by have bg:=(za l).1 k (by rw[nb.out];exact b0) (by rw[cS.out,nb.out];exact b0);have:T.data.toList[k]'(by simpa using b0)=T[k]:=oq T k b0;rw[←this];have e:∀(m:bk) (h:k<m.length),m=l→fi m[k]=true:=(by intro m h hm;subst hm;exact bg);exact e _ _ dR.out);obtain⟨Bm,F3⟩:=(q7 T[k]).1 acJ;have PG:=Ei l k (by rw[cS.out,nb.out];omega);have hp:(10:Nat)^ k≤10^11:=vU (by decide) (by omega);have ID:x<100000000000:=(by omega);have cF:J (val (l.take (k+1))=val (l.take k) *10+(T[k].toNat-48)):=(by show _=_;rw[←dR.out,PE T k b0];exact NJ _ _);have cV:=U hx;have aN:¬T[k].toNat<48:=(by omega);have aR:¬57<T[k].toNat:=(by omega);clear hx PG hp acJ;go_wp2;go_round
         case rel=>exact⟨k+1,x *10+(T[k].toNat-48),by omega,by omega,by omega,by rw[cF.out,cV.out];omega,by go_num,by go_num⟩
         case measure=>simp[intOf];omega
        ·obtain rfl:k=T.size:=(by omega);have Vy:x=(val l:Nat):=(by rw[hx,zS (by rw[nb.out];exact bD _)]);have ID:x.natAbs<10^T.size:=(by rw[Vy,DC];exact cd.out);have acK:=U Vy;have acL:x.natAbs≤1000000000000:=(by omega);clear hx Vy;have fin:∀m:Int,0≤m→m=((F2 l (eo+D) D t:Nat):Int)→∃(v:Int) (o:Bool),((ig (if b then -m else m) u).getD 0=v∧(ig (if b then -m else m) u).isSome=o)∧(lB s.data.toList u eo D t).getD 0=v∧(lB s.data.toList u eo D t).isSome=o:=(by intro m _ hm;refine⟨_,_,⟨rfl,rfl⟩,?_⟩;rw[cq.out,hm];exact⟨rfl,rfl⟩);have acM:=U fin;clear fin;cases t with
         |true=>
          obtain⟨y,hy⟩:∃y:Int,x *((10 ^(eo+D-T.size):Nat):Int)=y:=⟨_,rfl⟩;obtain⟨z,bx⟩:∃z:Int,y *((10 ^(6-D):Nat):Int)=z:=⟨_,rfl⟩
          have acN:y.natAbs<10 ^(eo+D):=by
           rw[←hy,FX,DC];have:=Pz ID (JK (n:=eo+D-T.size) (show 0<10 by decide))
           rwa [←PA,show T.size+(eo+D-T.size)=eo+D by omega] at this
          have A8:z.natAbs<10 ^(eo+6):=by
           rw[←bx,FX,DC];have:=Pz acN (JK (n:=6-D) (show 0<10 by decide))
           rwa [←PA,show eo+D+(6-D)=eo+6 by omega] at this
          have e5:x.natAbs *10 ^(eo+D-T.size)≤1000000000000000000:=(by have aa:x.natAbs *10 ^(eo+D-T.size)=y.natAbs:=(by rw[←hy,FX,DC]);have ah:=Kc (eo+D) (by omega);omega);have eb:y.natAbs *10 ^(6-D)≤1000000000000000000:=(by have aa:y.natAbs *10 ^(6-D)=z.natAbs:=(by rw[←bx,FX,DC]);have ah:=Kc (eo+6) (by omega);omega);have Vz:=Kc (eo+6) (by omega);have cU:0≤z:=(by rw[←bx,←hy];exact hL (hL sK (Vw _)) (Vw _));have cW:z≤1000000000000:=(by omega);have L6:z=((F2 l (eo+D) D true:Nat):Int):=(by unfold F2;rw[aT rfl,←bx,←hy,acK.out,nb.out,Ev,Ev]);obtain⟨v,o,tP,p8,DF⟩:=acM.out z cU L6;have wR:=U tP;have jR:=U p8;have pf:=U DF;have uZ:=U hy;have VA:=U bx;have cm:=U e5;have c1:=U eb;clear hy bx acN A8 e5 eb Vz L6 tP p8 DF ID acL;go_wp2_with fail;refine (Vu x _ (eo+D-T.size) (by omega) (by omega) cm.out y uZ _).mono ?_;rintro e w' ⟨rfl,rfl⟩;go_wp2_with fail;refine (Vu y _ (6-D) (by omega) (by omega) c1.out z VA _).mono ?_;rintro e w' ⟨rfl,rfl⟩;cases b with
          |true=>
           have yC:J ((ig (-z) u).getD 0=v∧(ig (-z) u).isSome=o):=wR.out;go_wp2_with fail;go_fit (IC _ u v o yC _);rintro e w' ⟨rfl,rfl⟩;go_wp2_with fail;go_ret2;rw[jR.out,pf.out];exact⟨rfl,vi.out⟩
          |false=>
           have yC:J ((ig z u).getD 0=v∧(ig z u).isSome=o):=wR.out;go_wp2_with fail;go_fit (IC _ u v o yC _);rintro e w' ⟨rfl,rfl⟩;go_wp2_with fail;go_ret2;rw[jR.out,pf.out];exact⟨rfl,vi.out⟩
         |false=>
          obtain⟨z,bx⟩:∃z:Int,x *((10 ^(6-D):Nat):Int)=z:=⟨_,rfl⟩;have A8:z.natAbs<10 ^(eo+6):=(by rw[←bx,FX,DC];have aa:=Pz ID (JK (n:=6-D) (show 0<10 by decide));rw[←PA] at aa;exact jl aa (vU (by decide) (by omega)));have eb:x.natAbs *10 ^(6-D)≤1000000000000000000:=(by have aa:x.natAbs *10 ^(6-D)=z.natAbs:=(by rw[←bx,FX,DC]);have ah:=Kc (eo+6) (by omega);omega);have Vz:=Kc (eo+6) (by omega);have cU:0≤z:=(by rw[←bx];exact hL sK (Vw _));have cW:z≤1000000000000:=(by omega);have L6:z=((F2 l (eo+D) D false:Nat):Int):=(by unfold F2;rw[aK (by decide),←bx,acK.out,Ev,P3]);obtain⟨v,o,tP,p8,DF⟩:=acM.out z cU L6;have wR:=U tP;have jR:=U p8;have pf:=U DF;have VA:=U bx;have c1:=U eb;clear bx A8 eb Vz L6 tP p8 DF ID acL;go_wp2_with fail;refine (Vu x _ (6-D) (by omega) (by omega) c1.out z VA _).mono ?_;rintro e w' ⟨rfl,rfl⟩;cases b with
          |true=>
           have yC:J ((ig (-z) u).getD 0=v∧(ig (-z) u).isSome=o):=wR.out;go_wp2_with fail;go_fit (IC _ u v o yC _);rintro e w' ⟨rfl,rfl⟩;go_wp2_with fail;go_ret2;rw[jR.out,pf.out];exact⟨rfl,vi.out⟩
          |false=>
           have yC:J ((ig z u).getD 0=v∧(ig z u).isSome=o):=wR.out;go_wp2_with fail;go_fit (IC _ u v o yC _);rintro e w' ⟨rfl,rfl⟩;go_wp2_with fail;go_ret2;rw[jR.out,pf.out];exact⟨rfl,vi.out⟩
      ·have ow:lB s.data.toList u eo D t=none:=Qg (fun h=>ax (by have:=h.2.2.2;rwa [yB] at this));have BF:=U ow;have gp:=r5 l;have awT:bC l<T.size:=(by omega);have dR:=U rF;have nb:=U hlen;clear ow ax aj rF yB hlen gp;generalize (strip s.data.toList).1=b;go_wp2_with fail
       go_loop [8,46] (fun v i=>∃(k:Nat) (x:Int),k≤bC l∧0≤x∧x<1000000000000∧x=val (l.take k)∧i=I k∧v=I x) (fun _ i=>T.size -(intOf i).toNat)
       case atStart=>exact⟨0,0,eC _,by omega,by omega,rfl,rfl,rfl⟩
       case round=>
        obtain⟨k,x,ab,sK,mm,hx,rfl,rfl⟩:=hrel;have VB:k<T.size:=(by omega);have VC:∀(m:bk) (h:k<m.length),m=l→(k<bC l→fi m[k]=true)∧(bC l=k→fi m[k]=false):=(by intro m h hm;subst hm;exact⟨fun bg=>(za m).1 k h bg,fun bg=>by have:=(za m).2 (by omega);simpa[bg] using this⟩);have aX:=VC T.data.toList (by simpa using VB) dR.out;rw[oq T k VB] at aX;by_cases b0:k<bC l
        ·obtain⟨Bm,F3⟩:=(q7 T[k]).1 (aX.1 b0);have PG:=Ei l k (by omega);have hp:(10:Nat)^ k≤10^11:=vU (by decide) (by omega);have ID:x<100000000000:=(by omega);have cF:J (val (l.take (k+1))=val (l.take k) *10+(T[k].toNat-48)):=(by show _=_;rw[←dR.out,PE T k VB];exact NJ _ _);have cV:=U hx;have aN:¬T[k].toNat<48:=(by omega);have aR:¬57<T[k].toNat:=(by omega);clear hx PG hp aX VC;go_wp2;go_round
         case rel=>exact⟨k+1,x *10+(T[k].toNat-48),by omega,by omega,by omega,by rw[cF.out,cV.out];omega,by go_num,by go_num⟩
         case measure=>simp[intOf];omega
        ·have hc:=(JO T[k]).1 (aX.2 (by omega));clear hx aX VC;rcases hc with hc|hc
         ·go_wp2;go_ret2;rw[BF.out];exact⟨rfl,vi.out⟩
         ·have aN:¬T[k].toNat<48:=(by omega);go_wp2;go_ret2;rw[BF.out];exact⟨rfl,vi.out⟩
     ·have ow:lB s.data.toList u eo D t=none:=Qg (fun h=>ah (by have:=h.2.2.1;rw[yB] at this;omega));have BF:=U ow;clear ow aj rF yB hlen;generalize (strip s.data.toList).1=b;go_wp2_with fail;go_ret2;rw[BF.out];exact⟨rfl,vi.out⟩
    ·have ow:lB s.data.toList u eo D t=none:=Qg (fun h=>aa (by have:=h.2.1;rw[yB] at this;omega));have BF:=U ow;clear ow aj rF yB hlen;generalize (strip s.data.toList).1=b;go_wp2_with fail;go_ret2;rw[BF.out];exact⟨rfl,vi.out⟩
theorem VD(s:aia)(l:bk)(aj:J (s.data.toList=l))(u i d:Int)(t:Bool)(v:Int)(b:Bool)(aS:J ((lB l u i d t).getD 0=v∧(lB l u i d t).isSome=b))(hs:s.size≤9223372036854775807)(w:bTo):
  Calls Tryz.prog 146 #[au s,IA u i d t] w fun e w'=>e=bb (.tuple #[I v,ai b])∧av w w w':=by
 have aa:=aj.out;obtain⟨ah,ax⟩:=aS.out;subst aa;subst ah;subst ax;exact anT s u i d t hs w
end Iz
namespace dE
open Go.RowKit el
open cf (C)
open jj (kd jk)
open wq (lB ig)
open Iz (VD IA)
abbrev DG:TypeId:=161
abbrev IE:TypeId:=276
abbrev anU:TypeId:=277
def vA(res:Except Nat cG):Prop:=∀k,res=.error k→k≠0
variable{p:cG}{q:bp}
theorem acO:vA (xP p q):=by
 intro k h;unfold xP at h;split at h
 ·cases h
 ·split at h
  ·cases h;decide
  ·cases h
theorem acP{d:Bool}{s:ey}:vA (iM p d s):=fun k h=>by rcases acj h with rfl|rfl<;>decide
theorem acQ{d:Bool}{s:ey}{t:hE}:vA (k3 p d s t):=fun k h=>by rcases ack h with rfl|rfl<;>decide
theorem acR{f:Bool→Bool}{t:hE}:∀{l:List ec} {p:cG},vA (mb f t l p)
 |[],_,k,h=>by cases h
 |o::l,p,k,h=>by
  unfold mb at h;split at h
  ·rename_i e he;injection h with h;subst h;exact acQ _ he
  ·exact acR _ h
theorem acS:vA (wD p q):=by
 intro k h;unfold wD at h;split at h
 ·cases h;decide
 ·split at h
  ·cases h;decide
  ·split at h
   ·exact acQ _ h
   ·exact acR _ h
variable{c:C}
theorem acT{r:bp}:vA (wE p c q r):=by
 intro k h;unfold wE at h;simp only at h
 repeat' split at h
 all_goals first|(cases h;decide)|cases h|exact acP _ h
variable{u v:Int}
theorem acU{n:Int}(h:ig n u=some v):-536870912≤v∧v≤536870912:=by
 unfold ig at h;split at h
 ·rename_i aF;injection h with h;rw[←h];exact aF.2.2
 ·cases h
theorem anV{l:bk}{i d:Int}{t:Bool}(h:lB l u i d t=some v):-536870912≤v∧v≤536870912:=by
 unfold lB at h;split at h
 ·exact acU h
 ·cases h
variable{w:bTo}
theorem eR.setAt{w0:bTo}{P:Nat}{R:Jp}{m:Nat}{L:o3}{fu:Int}{cv ov:ada}{cx ox:bTv}(h:eR w0 P R m L fu cv ov cx ox p w)(a b:Int):
  eR w0 P R m L fu cv ov cx ox {p with at_:=(a,b)} ((w.setCell (ag P 9) (I a)).setCell (ag P 10) (I b)):=by
 refine h.vr ((aL.set (a:=⟨P,9,none⟩) (fun ab=>ab rfl) _).trans (aL.set (a:=⟨P,10,none⟩) (fun ab=>ab rfl) _)) ?_ rfl rfl rfl rfl rfl;have:=c4 (k:=P) (i:=10) (I b) (c4 (k:=P) (i:=9) (I a) h.pl);exact this
def lH(x y i j:bk):Nat→List UInt8
 |0=>x
 |1=>y
 |2=>i
 |_=>j
def DH(p:cG):Nat→Int
 |0=>p.at_.1
 |1=>p.at_.2
 |_=>0
abbrev Qh(dm:Nat→Int):Array Value:= #[I (dm 0),I (dm 1),I (dm 2),I (dm 3)]
variable{j:Nat}
theorem anW(dm:Nat→Int)(v:Int)(cB:j<4):(Qh dm).setIfInBounds j (I v)=Qh (fun i=>if i=j then v else dm i):=by rcases (show j=0∨j=1∨j=2∨j=3 by omega) with rfl|rfl|rfl|rfl<;>rfl
theorem anX(x y i l:bk)(cB:j<4)(w:bTo):(Instr.index anU (.agg #[au ⟨x.toArray⟩,au ⟨y.toArray⟩,au ⟨i.toArray⟩,au ⟨l.toArray⟩]) (I (j:Int))).run Tryz.prog w=.ok (au ⟨(lH x y i l j).toArray⟩) w:=by rcases (show j=0∨j=1∨j=2∨j=3 by omega) with rfl|rfl|rfl|rfl<;>simp[Instr.index,jT Tryz.underlying277,asIntOf,go_sem,part,lH]
variable{dm:Nat→Int}
theorem anY{k:Nat}(h:bo w k (Qh dm) IE)(cB:j<4):aw w k j (I (dm j)):=by rcases (show j=0∨j=1∨j=2∨j=3 by omega) with rfl|rfl|rfl|rfl<;>simp[World.cell?,h]
structure IF(w:bTo)(D:Nat)(o:Obj)(u k2 fd:Int)(fO:Bool)(dm:Nat→Int)(x:bTo):Prop where
 aY:av w w x
 cC:x.heap[D]?=some o
 mX:bo x (D+1) (#[I u,I k2,I fd,ai fO]) DG
 vs:bo x (D+1+1) (Qh dm) IE
theorem IF.below{D:Nat}{o:Obj}{k2 fd:Int}{fO:Bool}{x y:bTo}(h:IF w D o u k2 fd fO dm x)(af:av x x y):IF w D o u k2 fd fO dm y:=⟨h.aY.trans (af.mono h.aY.size),aO h.cC af,aO h.mX af,aO h.vs af⟩
def w4(p:cG)(c:C)(dm:Nat→Int)(j:Nat):Prop:=(∀i,i<j→iY p (lH c.x c.y c.i c.j i) (DH p i)=some (dm i))∧∀i,j≤i→dm i=DH p i
def acV(xQ:bp):Except Nat cG→Except Nat cG
 |.error e=>.error e
 |.ok q=>.ok {q with at_:=xQ}
theorem acW(hu:¬(p.unit=0∨p.formed=false))(h:w4 p c dm 4):rr p c=acV (dm 0,dm 1) (if c.n=1 then wE p c (dm 0,dm 1) (dm 2,dm 3) else if c.n=2 then xP p (dm 0,dm 1) else if c.n=3 then wD p (dm 0,dm 1) else .error 4):=by unfold rr;have aQ:iY p c.x p.at_.1=some (dm 0):=h.1 0 (by decide);have aa:iY p c.y p.at_.2=some (dm 1):=h.1 1 (by decide);have ah:iY p c.i 0=some (dm 2):=h.1 2 (by decide);have ax:iY p c.j 0=some (dm 3):=h.1 3 (by decide);rw[aK hu,aQ,aa,ah,ax];simp only;split<;>rename_i hx<;>rw[hx]<;>rfl
theorem anZ(cB:j<4)(hu:¬(p.unit=0∨p.formed=false))(h:w4 p c dm j)(hn:iY p (lH c.x c.y c.i c.j j) (DH p j)=none):rr p c=.error 5:=by
 unfold rr;rw[aK hu];rcases (show j=0∨j=1∨j=2∨j=3 by omega) with rfl|rfl|rfl|rfl
 ·have hn:iY p c.x p.at_.1=none:=hn;rw[hn]
 ·have hn:iY p c.y p.at_.2=none:=hn;have aQ:iY p c.x p.at_.1=some (dm 0):=h.1 0 (by decide);rw[aQ,hn]
 ·have hn:iY p c.i 0=none:=hn;have aQ:iY p c.x p.at_.1=some (dm 0):=h.1 0 (by decide);have aa:iY p c.y p.at_.2=some (dm 1):=h.1 1 (by decide);rw[aQ,aa,hn]
 ·have hn:iY p c.j 0=none:=hn;have aQ:iY p c.x p.at_.1=some (dm 0):=h.1 0 (by decide);have aa:iY p c.y p.at_.2=some (dm 1):=h.1 1 (by decide);have ah:iY p c.i 0=some (dm 2):=h.1 2 (by decide);rw[aQ,aa,ah,hn]
theorem w4.step(h:w4 p c dm j)(aS:iY p (lH c.x c.y c.i c.j j) (DH p j)=some v):w4 p c (fun i=>if i=j then v else dm i) (j+1):=by
 refine⟨fun i hi=>?_,fun i hi=>?_⟩
 ·by_cases e:i=j
  ·subst e;simpa using aS
  ·simpa[e] using h.1 i (by omega)
 ·have e:¬i=j:=(by omega);simpa[e] using h.2 i (by omega)
theorem w4.same(h:w4 p c dm j)(he:lH c.x c.y c.i c.j j=[]):w4 p c dm (j+1):=by
 refine⟨fun i hi=>?_,fun i hi=>h.2 i (by omega)⟩;by_cases e:i=j
 ·subst e;unfold iY;rw[aT he,h.2 i (bD _)]
 ·exact h.1 i (by omega)
theorem w4.rU{p:cG}{c:C}{dm:Nat→Int}(h:w4 p c dm 4)(bx:rU p.at_):∀i,i<4→-536870912≤dm i∧dm i≤536870912:=by
 intro i hi;have aa:=h.1 i hi;unfold iY at aa;split at aa
 ·injection aa with aa;rw[←aa];unfold dE.rU at bx;rcases (show i=0∨i=1∨i=2∨i=3 by omega) with rfl|rfl|rfl|rfl<;>simp only[DH]<;>omega
 ·exact anV aa
theorem an0(w0:bTo)(P:Nat)(p:cG)(c:C)(ca:Int)(dd bv:ada)(w:bTo)(H:J (lF w0 P p w))(hs:FT p)(bx:nX p)(k9:J (∀i,(lH c.x c.y c.i c.j i).length≤1000000000))(res:Except Nat cG)(dk:J (rr p c=res)):
  Calls Tryz.prog 99 #[dv P 0,kd c ca dd bv] w fun e w'=>fm w0 P res e w':=by
 obtain⟨R,m,L,fu,cv,ov,cx,ox,h⟩:=H.out;have H1:=U h;have rE:=U bx;have Qi:=U hs;have cV:=U (fun (_:c.n=1)=>dk);obtain⟨u,F4⟩:=az p.unit;obtain⟨k2,F5⟩:=az p.k2;obtain⟨fd,L7⟩:=az p.fd;obtain⟨fO,CI⟩:=az p.fO;obtain⟨mX,uQ⟩:=az p.formed;have yq:=U F4;have acX:J (∀s was,iY p s was=if s=[] then some was else lB s u k2 fd fO):=fun s was=>by unfold iY;rw[F4,F5,L7,CI]
 obtain⟨jB,ph⟩:=az c;have sO:=U ph;obtain⟨cN,cn,cC,db,bj,dZ,d',dO,bn,c7,hq⟩:=c;rw[ph] at k9 dk cV;show Calls _ _ #[dv P 0,.agg #[I ca,I cN,I cn,I cC,ai db,au ⟨bj.toArray⟩,au ⟨dZ.toArray⟩,au ⟨d'.toArray⟩,au ⟨dO.toArray⟩,au ⟨bn.toArray⟩,dd,bv]] w _;clear h hs bx H ph cV;have awU:=U (Eq.refl p.at_);go_enter Tryz.func99,Tryz.ntmps99;go_upto_region 1 with fail;have h0:J (av w w (w.alloc (aD (#[I ca,I cN,I cn,I cC,ai db,au ⟨bj.toArray⟩,au ⟨dZ.toArray⟩,au ⟨d'.toArray⟩,au ⟨dO.toArray⟩,au ⟨bn.toArray⟩,dd,bv]) gP))):=ba _ _;have Qj:J ((w.alloc (aD (#[I ca,I cN,I cn,I cC,ai db,au ⟨bj.toArray⟩,au ⟨dZ.toArray⟩,au ⟨d'.toArray⟩,au ⟨dO.toArray⟩,au ⟨bn.toArray⟩,dd,bv]) gP)).heap[w.heap.size]?=some (.cells #[I ca,I cN,I cn,I cC,ai db,au ⟨bj.toArray⟩,au ⟨dZ.toArray⟩,au ⟨d'.toArray⟩,au ⟨dO.toArray⟩,au ⟨bn.toArray⟩,dd,bv] gP)):=cw _ _;have Dz:J ((w.alloc (aD (#[I ca,I cN,I cn,I cC,ai db,au ⟨bj.toArray⟩,au ⟨dZ.toArray⟩,au ⟨d'.toArray⟩,au ⟨dO.toArray⟩,au ⟨bn.toArray⟩,dd,bv]) gP)).heap.size=w.heap.size+1):=qo _;generalize w.alloc (.cells #[I ca,I cN,I cn,I cC,ai db,au ⟨bj.toArray⟩,au ⟨dZ.toArray⟩,au ⟨d'.toArray⟩,au ⟨dO.toArray⟩,au ⟨bn.toArray⟩,dd,bv] gP)=W at h0 Qj Dz⊢;obtain⟨D,bZ⟩:=az w.heap.size;have ht:=U bZ;rw[bZ] at Qj Dz⊢;have sY:=U (H1.out.below h0.out);have aJ:aw W P 0 (I u):=by rw[←F4];exact cell_of (i:=0) sY.out.pl rfl
 have aI:aw W P 1 (I fu):=cell_of (i:=1) sY.out.pl rfl;have c2:aw W P 2 (I k2):=by rw[←F5];exact cell_of (i:=2) sY.out.pl rfl
 have c3:aw W P 3 (I fd):=by rw[←L7];exact cell_of (i:=3) sY.out.pl rfl
 have bF:aw W P 4 (ai fO):=by rw[←CI];exact cell_of (i:=4) sY.out.pl rfl
 have c5:aw W P 5 (ai mX):=by rw[←uQ];exact cell_of (i:=5) sY.out.pl rfl
 have bf:aw W P 9 (I p.at_.1):=cell_of (i:=9) sY.out.pl rfl;have cy:aw W P 10 (I p.at_.2):=cell_of (i:=10) sY.out.pl rfl;have qu:P<W.heap.size:=lt_of_heap sY.out.pl;by_cases fX:u=0∨mX=false
 ·have hF: .error 4=res:=(by rw[←dk.out];unfold rr;rw[F4,uQ,aT fX]);clear F4 F5 L7 CI uQ bZ dk;by_cases yD:u=0
  ·subst yD;go_wp2_with fail;go_ret;rw[←hF];exact⟨sY.out.aY,rfl⟩
  ·have VE:(u==0)=false:=beq_eq_false_iff_ne.2 yD;obtain rfl:mX=false:=fX.resolve_left yD;go_wp2_with fail;go_ret;rw[←hF];exact⟨sY.out.aY,rfl⟩
 have VE:(u==0)=false:=beq_eq_false_iff_ne.2 fun h=>fX (.inl h);have acY:J (¬(p.unit=0∨p.formed=false)):=by show ¬_;rw[F4,uQ];exact fX
 obtain rfl:mX=true:=by cases mX;exact absurd (.inr rfl) fX;rfl
 clear F4 F5 L7 CI uQ fX bZ sY;go_upto_region 5 with fail;have c1:J (av W W (W.alloc (aD (#[I u,I k2,I fd,ai fO]) DG))):=ba _ _;have e9:J ((W.alloc (aD (#[I u,I k2,I fd,ai fO]) DG)).heap[D+1]?=some (.cells #[I u,I k2,I fd,ai fO] DG)):=by show _=_;rw[←Dz.out];exact cw _ _
 have pz:J ((W.alloc (aD (#[I u,I k2,I fd,ai fO]) DG)).heap.size=D+1+1):=by show _=_;rw[←Dz.out];exact qo _
 generalize W.alloc (.cells #[I u,I k2,I fd,ai fO] DG)=ct at c1 e9 pz⊢;rw[Dz.out];have d9:=bM c1.out bf;have d10:=bM c1.out cy;have an1:P<ct.heap.size:=by have:=c1.out.size;omega
 clear aJ aI c2 c3 bF c5 bf cy qu;go_region;have qX:J (IF w D (aD (#[I ca,I cN,I cn,I cC,ai db,au ⟨bj.toArray⟩,au ⟨dZ.toArray⟩,au ⟨d'.toArray⟩,au ⟨dO.toArray⟩,au ⟨bn.toArray⟩,dd,bv]) gP) u k2 fd fO (DH p) (ct.alloc (aD (#[I p.at_.1,I p.at_.2,I 0,I 0]) IE)).drew):=by have e5:av ct ct ((ct.alloc (aD (#[I p.at_.1,I p.at_.2,I 0,I 0]) IE)).drew):=(ba _ _).drew;refine⟨(h0.out.trans (c1.out.mono h0.out.size)).trans (e5.mono (dX h0.out.size c1.out.size)),aO (aO Qj.out c1.out) e5,aO e9.out e5,?_⟩;have:=cw ct (aD (#[I p.at_.1,I p.at_.2,I 0,I 0]) IE);rw[pz.out] at this;exact this
 rw[pz.out];generalize (ct.alloc (aD (#[I p.at_.1,I p.at_.2,I 0,I 0]) IE)).drew=c6 at qX⊢;clear h0 Qj Dz c1 e9 pz d9 d10 an1;have rj:=cell_of (i:=6) qX.out.cC rfl;have pg:=cell_of (i:=7) qX.out.cC rfl;have tr:=cell_of (i:=8) qX.out.cC rfl;have a9:=cell_of (i:=9) qX.out.cC rfl;have LW:J (∀i,lH jB.x jB.y jB.i jB.j i=lH dZ d' dO bn i):=fun i=>by rw[←sO.out]
 go_wp2_with fail;clear rj pg tr a9
 go_loopw [54] (fun i wr=>∃(j:Nat) (dm:Nat→Int) (aG:bTo),aG=wr∧j≤4∧i=I j∧J (IF w D (aD (#[I ca,I cN,I cn,I cC,ai db,au ⟨bj.toArray⟩,au ⟨dZ.toArray⟩,au ⟨d'.toArray⟩,au ⟨dO.toArray⟩,au ⟨bn.toArray⟩,dd,bv]) gP) u k2 fd fO dm aG)∧J (w4 p jB dm j)) (fun i _=>4 -(intOf i).toNat)
 case atStart=>exact⟨0,DH p,_,rfl,by omega,rfl,qX.out,fun i hi=>absurd hi (l7 _),fun i _=>rfl⟩
 case round=>
 obtain⟨j,dm,aG,rfl,cB,rfl,b',fv⟩:=hrel;clear qX;by_cases F6:j<4
 ·have an2:(j:Int)<4:=(by omega);have Bi:(0:Int)≤(j:Int):=(by omega);have oh:=fun x=>anX dZ d' dO bn F6 x;have hlen:=k9.out j;have KC:=U (Vr (lH dZ d' dO bn j));rw[LW.out] at hlen;obtain⟨S,hS⟩:∃S:aia,(⟨(lH dZ d' dO bn j).toArray⟩:aia)=S:=⟨_,rfl⟩;have lr:J (S.data.toList=lH dZ d' dO bn j):=(by show _=_;rw[←hS]);rw[hS] at oh KC;clear hS;by_cases Qk:lH dZ d' dO bn j=[]
  ·have HF:S.toList.isEmpty=true:=KC.out.trans (eH Qk);have BL:=U (fv.out.same ((LW.out j).trans Qk));clear hlen;go_wp2_with fail;go_round<;>first|exact⟨j+1,dm,_,rfl,by omega,by go_num,b'.out,BL.out⟩|(simp[intOf]<;>omega)
  ·have HF:S.toList.isEmpty=false:=KC.out.trans (eD Qk);have mX:=b'.out.mX;have f0:=cell_of (i:=0) mX rfl;have f1:=cell_of (i:=1) mX rfl;have f2:=cell_of (i:=2) mX rfl;have f3:=cell_of (i:=3) mX rfl;have an3:S.size≤9223372036854775807:=(by have aa:=gb List.length lr.out;have ah:S.data.toList.length=S.size:=(by rw[Array.length_toList];rfl);omega);obtain⟨o,bl⟩:=az (lB (lH dZ d' dO bn j) u k2 fd fO);have acZ:iY p (lH jB.x jB.y jB.i jB.j j) (DH p j)=o:=(by rw[acX.out,LW.out,aK Qk];exact bl);have cd:J ((lB (lH dZ d' dO bn j) u k2 fd fO).getD 0=o.getD 0∧(lB (lH dZ d' dO bn j) u k2 fd fO).isSome=o.isSome):=(by show _∧_;rw[bl];exact⟨rfl,rfl⟩);have CP:=U acZ;clear mX bl acZ hlen;go_wp2_with fail;go_fit (VD S (lH dZ d' dO bn j) lr u k2 fd fO _ _ cd an3 _);rintro e bt ⟨rfl,dT⟩;have Ql:=U (b'.out.below dT);clear f0 f1 f2 f3 dT cd;cases o with
   |none=>
    have hF: .error 5=res:=(by rw[←dk.out];exact (anZ F6 acY.out fv.out CP.out).symm);go_wp2_with fail;go_ret;rw[←hF];exact⟨H1.out.aY.trans (Ql.out.aY.mono H1.out.aY.size),rfl⟩
   |some v=>
    have BL:=U (fv.out.step CP.out);have v0:=anY Ql.out.vs F6;have an4:=cP Ql.out.vs j;have awV:j<4:=F6;go_wp2_with fail;have o5:J (IF w D (aD (#[I ca,I cN,I cn,I cC,ai db,au ⟨bj.toArray⟩,au ⟨dZ.toArray⟩,au ⟨d'.toArray⟩,au ⟨dO.toArray⟩,au ⟨bn.toArray⟩,dd,bv]) gP) u k2 fd fO (fun i=>if i=j then v else dm i) (bt.setCell (ag (D+1+1) j) (I v))):=(by have h:=Ql.out;refine⟨h.aY.setCell (p:=⟨D+1+1,j,none⟩) (by show _≤D+1+1;have:=ht.out;omega) _,(jg (by omega)).trans h.cC,(jg (by omega)).trans h.mX,?_⟩;have:=c4 (i:=j) (I v) h.vs;rw[anW dm v F6] at this;exact this);go_round<;>first|exact⟨j+1,_,_,rfl,by omega,by go_num,o5.out,BL.out⟩|(simp[intOf]<;>omega)
 ·have iH:j=4:=(by omega);subst iH;have iC:J (av w w aG):=b'.out.aY;have pO:=fv.out.rU rE.out.at_;obtain⟨vx,h4⟩:=az (if cn=1 then wE p jB (dm 0,dm 1) (dm 2,dm 3) else if cn=2 then xP p (dm 0,dm 1) else if cn=3 then wD p (dm 0,dm 1) else .error 4);have aE:J (acV (dm 0,dm 1) vx=res):=by show _=_;rw[←dk.out,acW acY.out fv.out,←h4,←sO.out]
  have sn:J (vA vx):=by
   show vA _;rw[←h4];split
   ·exact acT
   ·split
    ·exact acO
    ·split
     ·exact acS
     ·intro k h;cases h;decide
  have L8:J (lF w0 P p w):=⟨_,_,_,_,_,_,_,_,H1.out⟩;have i0:=pO 0 (by decide);have iN:=pO 1 (by decide);have i2:=pO 2 (by decide);have i3:=pO 3 (by decide);have an5:J (∀Z,av w w Z→cn=1→Calls Tryz.prog 147 #[dv P 0,.agg #[I ca,I cN,I cn,I cC,ai db,au ⟨bj.toArray⟩,au ⟨dZ.toArray⟩,au ⟨d'.toArray⟩,au ⟨dO.toArray⟩,au ⟨bn.toArray⟩,dd,bv],.agg #[I (dm 0),I (dm 1)],.agg #[I (dm 2),I (dm 3)]] Z fun e w'=>fm w0 P vx e w'∧aL (fun k=>w.heap.size≤k) Z w'):=(by intro Z eU hn;have aa:=anG w0 P p jB ca dd bv (dm 0) (dm 1) (dm 2) (dm 3) w Z L8 eU Qi.out rE.out ⟨i0.1,i0.2,iN.1,iN.2⟩ ⟨i2.1,i2.2,i3.1,i3.2⟩ vx (by show _=_;rw[←h4,aT hn]);rw[←sO.out] at aa;exact aa);have VF:J (∀Z,av w w Z→cn=2→Calls Tryz.prog 148 #[dv P 0,.agg #[I (dm 0),I (dm 1)]] Z fun e w'=>fm w0 P vx e w'∧aL (fun k=>w.heap.size≤k) Z w'):=fun Z eU hn=>anj w0 P p (dm 0) (dm 1) w Z L8 eU Qi.out vx (by show _=_;rw[←h4,aK (by omega),aT hn]);have L9:J (∀Z,av w w Z→cn=3→Calls Tryz.prog 149 #[dv P 0,.agg #[I (dm 0),I (dm 1)]] Z fun e w'=>fm w0 P vx e w'∧aL (fun k=>w.heap.size≤k) Z w'):=fun Z eU hn=>anu w0 P p (dm 0) (dm 1) w Z L8 eU rE.out (by show _∧_;unfold e4;omega) vx (by show _=_;rw[←h4,aK (by omega),aK (by omega),aT hn]);have bm:J (cn≠1→cn≠2→cn≠3→res=.error 4):=(fun aa ah ax=>by rw[aK aa,aK ah,aK ax] at h4;rw[←aE.out,←h4];rfl);clear h4 pO i0 iN i2 i3;have m0:=cell_of (i:=0) b'.out.cC rfl;have m1:=cell_of (i:=1) b'.out.cC rfl;have m2:=cell_of (i:=2) b'.out.cC rfl;have m3:=cell_of (i:=3) b'.out.cC rfl;have m4:=cell_of (i:=4) b'.out.cC rfl;have m5:=cell_of (i:=5) b'.out.cC rfl;have m6:=cell_of (i:=6) b'.out.cC rfl;have m7:=cell_of (i:=7) b'.out.cC rfl;have m8:=cell_of (i:=8) b'.out.cC rfl;have m9:=cell_of (i:=9) b'.out.cC rfl;have m10:=cell_of (i:=10) b'.out.cC rfl;have m11:=cell_of (i:=11) b'.out.cC rfl;have v0:=cell_of (i:=0) b'.out.vs rfl;have v1:=cell_of (i:=1) b'.out.vs rfl;go_upto_region 17 with fail;have o5:=U (b'.out.below (ba aG (aD (#[I (dm 0),I (dm 1)]) eE)));have kD:J ((aG.alloc (aD (#[I (dm 0),I (dm 1)]) eE)).heap[aG.heap.size]?=some (.cells #[I (dm 0),I (dm 1)] eE)):=cw _ _;have ac0:w.heap.size≤aG.heap.size:=iC.out.size;clear m0 m1 m2 m3 m4 m5 m6 m7 m8 m9 m10 m11 v0 v1;generalize aG.alloc (.cells #[I (dm 0),I (dm 1)] eE)=hQ at o5 kD⊢;obtain⟨T,fh⟩:=az aG.heap.size;rw[fh] at kD ac0⊢;clear fh b' iC;have m0:=cell_of (i:=0) o5.out.cC rfl;have m1:=cell_of (i:=1) o5.out.cC rfl;have m2:=cell_of (i:=2) o5.out.cC rfl;have m3:=cell_of (i:=3) o5.out.cC rfl;have m4:=cell_of (i:=4) o5.out.cC rfl;have m5:=cell_of (i:=5) o5.out.cC rfl;have m6:=cell_of (i:=6) o5.out.cC rfl;have m7:=cell_of (i:=7) o5.out.cC rfl;have m8:=cell_of (i:=8) o5.out.cC rfl;have m9:=cell_of (i:=9) o5.out.cC rfl;have m10:=cell_of (i:=10) o5.out.cC rfl;have m11:=cell_of (i:=11) o5.out.cC rfl;have v2:=cell_of (i:=2) o5.out.vs rfl;have v3:=cell_of (i:=3) o5.out.vs rfl;obtain⟨t0,t1⟩:=DA kD.out;have iC:J (av w w hQ):=o5.out.aY;by_cases hc:cn=1∨cn=2∨cn=3
  ·rcases hc with rfl|rfl|rfl
   all_goals
    go_wp2_with fail
    first
     |go_fit (an5.out _ iC.out (by trivial))
     |go_fit (VF.out _ iC.out (by trivial))
     |go_fit (L9.out _ iC.out (by trivial))
    rintro e j7 ⟨yE,VG⟩;have pN:=U (VG.get ac0 kD.out);clear m0 m1 m2 m3 m4 m5 m6 m7 m8 m9 m10 m11 v2 v3 t0 t1;cases vx with
    |error k=>
     have nR:((k:Int)==0)=false:=(by have:=sn.out k rfl;rw[kO];omega);obtain rfl:=yE.err rfl;have lQ:J (av w0 w0 j7):=yE.1;have hF: .error k=res:=aE.out;clear yE VG;go_wp2_with fail;go_ret;rw[←hF];exact⟨lQ.out,rfl⟩
    |ok q=>
     obtain⟨rfl,vB⟩:=yE.get rfl;have hF: .ok {q with at_:=(dm 0,dm 1)}=res:=aE.out;clear yE VG;obtain⟨awW,m7,awX,awY,awZ,aw0,aw1,aw2,ea⟩:=vB;have L':=U ea;clear ea;obtain⟨t0,t1⟩:=DA pN.out;have aw3:aw j7 P 9 (I q.at_.1):=cell_of (i:=9) L'.out.pl rfl;have Aj:aw j7 P 10 (I q.at_.2):=cell_of (i:=10) L'.out.pl rfl;have g9:=cP L'.out.pl 9;have g10:=cP L'.out.pl 10;go_wp2_with fail;go_ret;rw[←hF];exact fm.mJ rfl (L'.out.setAt (dm 0) (dm 1))
  ·have aa:(cn==1)=false:=beq_eq_false_iff_ne.2 fun h=>hc (.inl h);have ah:(cn==2)=false:=beq_eq_false_iff_ne.2 fun h=>hc (.inr (.inl h));have ax:(cn==3)=false:=beq_eq_false_iff_ne.2 fun h=>hc (.inr (.inr h));have hF:=bm.out (fun h=>hc (.inl h)) (fun h=>hc (.inr (.inl h))) (fun h=>hc (.inr (.inr h)));go_wp2_with fail;go_ret;rw[hF];exact⟨H1.out.aY.trans (iC.out.mono H1.out.aY.size),rfl⟩
end dE
