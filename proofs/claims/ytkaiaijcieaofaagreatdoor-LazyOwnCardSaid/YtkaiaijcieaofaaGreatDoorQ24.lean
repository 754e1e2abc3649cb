/- Lemmas. -/
import Derived.Test.YtkaiaijcieaofaaGreatDoorQ23
set_option linter.all false
set_option maxRecDepth 100000
set_option maxHeartbeats 12800000
namespace Go.Proofs.YtkaiaijcieaofaaGreatDoor
abbrev FD:=@Proofs.Tryz.func219
abbrev FE:=@Proofs.Tryz.ntmps219
abbrev FF:=@Proofs.Tryz.results219
abbrev FG:=@Proofs.Tryz.func216
abbrev FH:=@Proofs.Tryz.ntmps216
abbrev P4:=@Proofs.Tryz.func217
abbrev P5:=@Proofs.Tryz.ntmps217
abbrev FI:=@Int.tdiv_eq_ediv_of_nonneg
abbrev Bb:=@Int.tmod_eq_emod_of_nonneg
namespace n2
open Go.RowKit gI Fr
structure FJ(w0:aeo)(n d m e:Int)(w:aeo):Prop where
 a:w.heap[w0.heap.size]?=some (dG n d)
 b:w.heap[w0.heap.size+1]?=some (dG m e)
 r:w.heap[w0.heap.size+2]?=some (dG 0 0)
 aM:an w0 w0 w
theorem FJ.below{w0 w w':aeo}{n d m e:Int}(h:FJ w0 n d m e w)(ay:an w w w'):FJ w0 n d m e w':=
 ⟨(ay.block _ (Array.getElem?_eq_some_iff.1 h.a).1).trans h.a,(ay.block _ (Array.getElem?_eq_some_iff.1 h.b).1).trans h.b,(ay.block _ (Array.getElem?_eq_some_iff.1 h.r).1).trans h.r,h.aM.trans (ay.mono h.aM.size)⟩
theorem anU(w:aeo)(n d m e:Int):FJ w n d m e (((w.alloc (dG n d)).alloc (dG m e)).alloc (dG 0 0)):=by
 refine⟨?_,?_,?_,?_⟩
 ·rw[qL _ _ _ (by simp;omega),qL _ _ _ (by simp)];show (w.heap.push _)[w.heap.size]?=_;simp
 ·rw[qL _ _ _ (by simp)];show ((w.alloc (dG n d)).heap.push _)[_]?=_;rw[Array.getElem?_push,aW (by simp)]
 ·show (((w.alloc (dG n d)).alloc (dG m e)).heap.push _)[_]?=_;rw[Array.getElem?_push,aW (by simp)]
 ·exact (((Below.refl _ _).alloc (aP _) _).alloc (by simp) _).alloc (by simp;omega) _
theorem FJ.fin{w0 w:aeo}{n d m e:Int}(h:FJ w0 n d m e w)(N D:Int):∀v,v=(w.setCell (aj (w0.heap.size+2) 0) (I N)).setCell (aj (w0.heap.size+2) 1) (I D)→
  v.heap[w0.heap.size+2]?=some (dG N D)∧an w0 w0 v:=by
 rintro v rfl;exact⟨vu h.r N D,(h.aM.setCell (by show _≤_+2;omega) _).setCell (by show _≤_+2;omega) _⟩
theorem anV{n d m e:Int}(au:oR n d=true)(ax:oR m e=true):In n d∧In m e:=⟨DU au,DU ax⟩
theorem anW{a b:Int}(au:-1073741824≤a)(ax:a≤1073741824)(aA:-1073741824≤b)(bb:b≤1073741824):-1152921504606846976≤a *b∧a *b≤1152921504606846976:=by
 have h:(a *b).natAbs≤1152921504606846976:=by rw[Ck];exact cd (Nat.mul_le_mul (show a.natAbs≤1073741824 by omega) (show b.natAbs≤1073741824 by omega)) (by decide)
 omega
theorem LV{a b:Int}(au:-1073741824≤a)(ax:a≤1073741824)(aA:-1073741824≤b)(bb:b≤1073741824):∃x,a *b=x∧-1152921504606846976≤x∧x≤1152921504606846976:=⟨_,rfl,anW au ax aA bb⟩
theorem KY(k n d m e:Int)(r:Int×Int×Nat)(hr:af (kF k n d m e=r))(w:aeo):
  Calls Tryz.prog 219 #[I k,iq n d,iq m e] w (FC r w):=by
 obtain⟨acx,FK⟩:=aq (oR n d);obtain⟨qH,uR⟩:=aq (oR m e);have FL:af (oR n d=acx):=FK;have Ig:af (oR m e=qH):=uR;have tY:af (FJ w n d m e (((w.alloc (dG n d)).alloc (dG m e)).alloc (dG 0 0))):=anU w n d m e;cases acx with
 |false=>
  have aQ:af (r=(0,0,5)):=(by show _=_;rw[←hr.out];unfold kF;rw[FK,aN (by rintro⟨h,_⟩;cases h)]);clear hr FK uR;go_enter FD,FE;go_wp2_with fail;with_reducible refine (sL n d false FL _).mono ?_
  rintro b3 bk ⟨rfl,cj⟩;have H1:Hid _:=tY.out.below cj;obtain⟨⟨a0,ew⟩,_⟩:=ec H1.out.a;obtain⟨⟨cH,cw⟩,_⟩:=ec H1.out.b;obtain⟨⟨aV,aT⟩,f0,f1⟩:=ec H1.out.r;clear cj;have aJ:Hid _:=H1.out.fin 0 0 _ rfl;go_wp2_with fail;generalize (bk.setCell (aj (w.heap.size+2) 0) (I 0)).setCell (aj (w.heap.size+2) 1) (I 0)=cZ at aJ⊢;obtain⟨⟨du,dI⟩,_⟩:=ec aJ.out.1;exact cL (v:=.tuple #[iq 0 0,I 5]) (by simp[results,FF,go_sem,du,dI]) rfl ⟨by rw[aQ.out];rfl,aJ.out.2⟩
 |true=>
  cases qH with
  |false=>
   have aQ:af (r=(0,0,5)):=(by show _=_;rw[←hr.out];unfold kF;rw[uR,aN (by rintro⟨_,h⟩;cases h)]);clear hr FK uR;go_enter FD,FE;go_wp2_with fail;with_reducible refine (sL n d true FL _).mono ?_
   rintro b3 bk ⟨rfl,cj⟩;have H1:Hid _:=tY.out.below cj;obtain⟨⟨cH,cw⟩,_⟩:=ec H1.out.b;clear cj;go_wp2_with fail;with_reducible refine (sL m e false Ig _).mono ?_
   rintro b3 bt ⟨rfl,ck⟩;have bp:Hid _:=H1.out.below ck;clear cH cw ck;obtain⟨⟨aV,aT⟩,f0,f1⟩:=ec bp.out.r;have aJ:Hid _:=bp.out.fin 0 0 _ rfl;go_wp2_with fail;generalize (bt.setCell (aj (w.heap.size+2) 0) (I 0)).setCell (aj (w.heap.size+2) 1) (I 0)=cZ at aJ⊢;obtain⟨⟨du,dI⟩,_⟩:=ec aJ.out.1;exact cL (v:=.tuple #[iq 0 0,I 5]) (by simp[results,FF,go_sem,du,dI]) rfl ⟨by rw[aQ.out];rfl,aJ.out.2⟩
  |true=>
   obtain⟨⟨i1,i2,i3,i4⟩,avW,acy,Vf,Vg⟩:=anV FK uR;obtain⟨ne,hne,avX,avY⟩:=LV i3 i4 (show -1073741824≤e by omega) acy;obtain⟨md,Fe,q1,avZ⟩:=LV Vf Vg (show -1073741824≤d by omega) i2;obtain⟨Bc,anX,av0,av1⟩:=LV (show -1073741824≤d by omega) i2 (show -1073741824≤e by omega) acy;obtain⟨oA,wv,av2,av3⟩:=LV i3 i4 Vf Vg;obtain⟨Vh,anY,av4,av5⟩:=LV (show -1073741824≤d by omega) i2 Vf Vg;have p':af ((if k=3 then jT (ne+md) Bc else if k=4 then jT (ne-md) Bc else if k=5 then jT oA Bc else if k=6 then jT ne Vh else (0,0,5))=r):=(by show _=_;rw[←hr.out];unfold kF;rw[FK,uR,aW (show true=true∧true=true from⟨rfl,rfl⟩),hne,Fe,anX,wv,anY]);clear hr FK uR;by_cases aA:k=3
   ·have bN:af (jT (ne+md) Bc=r):=(by show _=_;rw[←p'.out,aW aA]);clear p';subst aA;go_enter FD,FE;go_wp2_with fail;with_reducible refine (sL n d true FL _).mono ?_
    rintro b3 bk ⟨rfl,cj⟩;have H1:Hid _:=tY.out.below cj;obtain⟨⟨cH,cw⟩,_⟩:=ec H1.out.b;clear cj;go_wp2_with fail;with_reducible refine (sL m e true Ig _).mono ?_
    rintro b3 bt ⟨rfl,ck⟩;have bp:Hid _:=H1.out.below ck;clear cH cw ck;obtain⟨⟨a0,ew⟩,_⟩:=ec bp.out.a;obtain⟨⟨cH,cw⟩,_⟩:=ec bp.out.b;go_wp2_with fail;with_reducible refine (Ba (ne+md) Bc (by omega) (by omega) (by omega) (by omega) r bN _).mono ?_
    rintro b3 db ⟨rfl,eF⟩;have bW:Hid _:=bp.out.below eF;clear eF a0 ew cH cw;obtain⟨⟨aV,aT⟩,f0,f1⟩:=ec bW.out.r;have aJ:Hid _:=bW.out.fin r.1 r.2.1 _ rfl;go_wp2_with fail;generalize (db.setCell (aj (w.heap.size+2) 0) (I r.1)).setCell (aj (w.heap.size+2) 1) (I r.2.1)=cZ at aJ⊢;obtain⟨⟨du,dI⟩,_⟩:=ec aJ.out.1;exact cL (v:=.tuple #[iq r.1 r.2.1,I (r.2.2:Int)]) (by simp[results,FF,go_sem,du,dI]) rfl ⟨rfl,aJ.out.2⟩
   ·skip
    by_cases bb:k=4
    ·have bN:af (jT (ne-md) Bc=r):=(by show _=_;rw[←p'.out,aN aA,aW bb]);clear p';subst bb;go_enter FD,FE;go_wp2_with fail;with_reducible refine (sL n d true FL _).mono ?_
     rintro b3 bk ⟨rfl,cj⟩;have H1:Hid _:=tY.out.below cj;obtain⟨⟨cH,cw⟩,_⟩:=ec H1.out.b;clear cj;go_wp2_with fail;with_reducible refine (sL m e true Ig _).mono ?_
     rintro b3 bt ⟨rfl,ck⟩;have bp:Hid _:=H1.out.below ck;clear cH cw ck;obtain⟨⟨a0,ew⟩,_⟩:=ec bp.out.a;obtain⟨⟨cH,cw⟩,_⟩:=ec bp.out.b;go_wp2_with fail;with_reducible refine (Ba (ne-md) Bc (by omega) (by omega) (by omega) (by omega) r bN _).mono ?_
     rintro b3 db ⟨rfl,eF⟩;have bW:Hid _:=bp.out.below eF;clear eF a0 ew cH cw;obtain⟨⟨aV,aT⟩,f0,f1⟩:=ec bW.out.r;have aJ:Hid _:=bW.out.fin r.1 r.2.1 _ rfl;go_wp2_with fail;generalize (db.setCell (aj (w.heap.size+2) 0) (I r.1)).setCell (aj (w.heap.size+2) 1) (I r.2.1)=cZ at aJ⊢;obtain⟨⟨du,dI⟩,_⟩:=ec aJ.out.1;exact cL (v:=.tuple #[iq r.1 r.2.1,I (r.2.2:Int)]) (by simp[results,FF,go_sem,du,dI]) rfl ⟨rfl,aJ.out.2⟩
    ·skip
     by_cases bj:k=5
     ·have bN:af (jT oA Bc=r):=(by show _=_;rw[←p'.out,aN aA,aN bb,aW bj]);clear p';subst bj;go_enter FD,FE;go_wp2_with fail;with_reducible refine (sL n d true FL _).mono ?_
      rintro b3 bk ⟨rfl,cj⟩;have H1:Hid _:=tY.out.below cj;obtain⟨⟨cH,cw⟩,_⟩:=ec H1.out.b;clear cj;go_wp2_with fail;with_reducible refine (sL m e true Ig _).mono ?_
      rintro b3 bt ⟨rfl,ck⟩;have bp:Hid _:=H1.out.below ck;clear cH cw ck;obtain⟨⟨a0,ew⟩,_⟩:=ec bp.out.a;obtain⟨⟨cH,cw⟩,_⟩:=ec bp.out.b;go_wp2_with fail;with_reducible refine (Ba oA Bc (by omega) (by omega) (by omega) (by omega) r bN _).mono ?_
      rintro b3 db ⟨rfl,eF⟩;have bW:Hid _:=bp.out.below eF;clear eF a0 ew cH cw;obtain⟨⟨aV,aT⟩,f0,f1⟩:=ec bW.out.r;have aJ:Hid _:=bW.out.fin r.1 r.2.1 _ rfl;go_wp2_with fail;generalize (db.setCell (aj (w.heap.size+2) 0) (I r.1)).setCell (aj (w.heap.size+2) 1) (I r.2.1)=cZ at aJ⊢;obtain⟨⟨du,dI⟩,_⟩:=ec aJ.out.1;exact cL (v:=.tuple #[iq r.1 r.2.1,I (r.2.2:Int)]) (by simp[results,FF,go_sem,du,dI]) rfl ⟨rfl,aJ.out.2⟩
     ·skip
      by_cases b8:k=6
      ·have bN:af (jT ne Vh=r):=(by show _=_;rw[←p'.out,aN aA,aN bb,aN bj,aW b8]);clear p';subst b8;go_enter FD,FE;go_wp2_with fail;with_reducible refine (sL n d true FL _).mono ?_
       rintro b3 bk ⟨rfl,cj⟩;have H1:Hid _:=tY.out.below cj;obtain⟨⟨cH,cw⟩,_⟩:=ec H1.out.b;clear cj;go_wp2_with fail;with_reducible refine (sL m e true Ig _).mono ?_
       rintro b3 bt ⟨rfl,ck⟩;have bp:Hid _:=H1.out.below ck;clear cH cw ck;obtain⟨⟨a0,ew⟩,_⟩:=ec bp.out.a;obtain⟨⟨cH,cw⟩,_⟩:=ec bp.out.b;go_wp2_with fail;with_reducible refine (Ba ne Vh (by omega) (by omega) (by omega) (by omega) r bN _).mono ?_
       rintro b3 db ⟨rfl,eF⟩;have bW:Hid _:=bp.out.below eF;clear eF a0 ew cH cw;obtain⟨⟨aV,aT⟩,f0,f1⟩:=ec bW.out.r;have aJ:Hid _:=bW.out.fin r.1 r.2.1 _ rfl;go_wp2_with fail;generalize (db.setCell (aj (w.heap.size+2) 0) (I r.1)).setCell (aj (w.heap.size+2) 1) (I r.2.1)=cZ at aJ⊢;obtain⟨⟨du,dI⟩,_⟩:=ec aJ.out.1;exact cL (v:=.tuple #[iq r.1 r.2.1,I (r.2.2:Int)]) (by simp[results,FF,go_sem,du,dI]) rfl ⟨rfl,aJ.out.2⟩
      ·skip
       have aQ:af (r=(0,0,5)):=(by show _=_;rw[←p'.out,aN aA,aN bb,aN bj,aN b8]);have t3:(k==3)=false:=(by simp[aA]);have t4:(k==4)=false:=(by simp[bb]);have t5:(k==5)=false:=(by simp[bj]);have t6:(k==6)=false:=(by simp[b8]);clear p' aA bb bj b8;go_enter FD,FE;go_wp2_with fail;with_reducible refine (sL n d true FL _).mono ?_
       rintro b3 bk ⟨rfl,cj⟩;have H1:Hid _:=tY.out.below cj;obtain⟨⟨cH,cw⟩,_⟩:=ec H1.out.b;clear cj;go_wp2_with fail;with_reducible refine (sL m e true Ig _).mono ?_
       rintro b3 bt ⟨rfl,ck⟩;have bp:Hid _:=H1.out.below ck;clear cH cw ck;obtain⟨⟨a0,ew⟩,_⟩:=ec bp.out.a;obtain⟨⟨cH,cw⟩,_⟩:=ec bp.out.b;obtain⟨⟨aV,aT⟩,f0,f1⟩:=ec bp.out.r;have aJ:Hid _:=bp.out.fin 0 0 _ rfl;go_wp2_with fail;generalize (bt.setCell (aj (w.heap.size+2) 0) (I 0)).setCell (aj (w.heap.size+2) 1) (I 0)=cZ at aJ⊢;obtain⟨⟨du,dI⟩,_⟩:=ec aJ.out.1;exact cL (v:=.tuple #[iq 0 0,I 5]) (by simp[results,FF,go_sem,du,dI]) rfl ⟨by rw[aQ.out];rfl,aJ.out.2⟩
end n2
namespace c1
open Go.RowKit ef
open _root_.Go.Proofs.YtkaiaijcieaofaaGreatDoor.Fr (kF jT oR DU)
open n2 (iq dG FC ec vu KY)
open gI
theorem Ih(n d u:Int):-536870912≤(kG n d u).1∧(kG n d u).1≤536870912:=by
 unfold kG;obtain⟨g,aI⟩:=aq ((n *(if u=1 then (10000000:Int) else 254000000)).tdiv d);obtain⟨m,hm⟩:=aq ((n *(if u=1 then (10000000:Int) else 254000000)).tmod d);rw[aI,hm]
 repeat' split
 all_goals first|exact⟨by decide,by decide⟩|(show -536870912≤g∧g≤536870912;omega)
theorem acz{G d g:Int}{hb:Nat}(h:(g,hb)=if G.tmod d≠0 then ((0:Int),7) else if G.tdiv d< -536870912∨536870912<G.tdiv d then (0,5) else (G.tdiv d,0)):
  ((G.tmod d !=0)=true∧g=0∧hb=7)∨((G.tmod d !=0)=false∧G.tdiv d< -536870912∧g=0∧hb=5)∨((G.tmod d !=0)=false∧¬G.tdiv d< -536870912∧536870912<G.tdiv d∧g=0∧hb=5)∨((G.tmod d !=0)=false∧¬G.tdiv d< -536870912∧¬536870912<G.tdiv d∧g=G.tdiv d∧hb=0):=by
 by_cases au:G.tmod d=0
 ·rw[aN (by simpa using au)] at h;have aY:(G.tmod d !=0)=false:=(by rw[au];rfl);by_cases ax:G.tdiv d< -536870912
  ·rw[aW (.inl ax)] at h;simp only[fg] at h;exact .inr (.inl ⟨aY,ax,h.1,h.2⟩)
  ·by_cases aA:536870912<G.tdiv d
   ·rw[aW (.inr aA)] at h;simp only[fg] at h;exact .inr (.inr (.inl ⟨aY,ax,aA,h.1,h.2⟩))
   ·rw[aN (by omega)] at h;simp only[fg] at h;exact .inr (.inr (.inr ⟨aY,ax,aA,h.1,h.2⟩))
 ·rw[aW au] at h;simp only[fg] at h;exact .inl ⟨bne_iff_ne.2 au,h.1,h.2⟩
theorem anZ{n d:Int}(h:(kF 3 n d 0 1).2.2=0):1≤d∧d≤1073741824∧-1073741824≤n∧n≤1073741824:=by
 unfold kF at h;split at h
 ·rename_i aI;exact DU aI.1
 ·cases h
def Vi(n d u:Int)(c:Nat)(g:Int)(hb:Nat):Prop:=(g,hb)=if c≠0 then ((0:Int),5) else if u≠1∧u≠2 then (0,5) else if (n *(if u=1 then 10000000 else 254000000)).tmod d≠0 then (0,7) else if (n *(if u=1 then 10000000 else 254000000)).tdiv d< -536870912∨536870912<(n *(if u=1 then 10000000 else 254000000)).tdiv d then (0,5) else ((n *(if u=1 then 10000000 else 254000000)).tdiv d,0)
def an0(c:Nat)(n d:Int):Prop:=c=0→1≤d∧d≤1073741824∧-1073741824≤n∧n≤1073741824
theorem an1(n d u:Int)(w:aeo):Calls Tryz.prog 247 #[iq n d,I u] w fun e w'=>e=ab (.tuple #[I (kG n d u).1,I ((kG n d u).2:Int)])∧an w w w':=by
 obtain⟨R,hR⟩:=aq (kF 3 n d 0 1);have bG:=ao (fun Z=>KY 3 n d 0 1 R (ao hR) Z);obtain⟨g,hb,aI⟩:∃g e,kG n d u=(g,e):=⟨_,_,rfl⟩;have bH:af (Vi n d u R.2.2 g hb):=by show _=_;rw[←aI];unfold kG;rw[hR]
 have b9:af (an0 R.2.2 n d):=fun h=>anZ (by rw[hR];exact h);rw[aI];clear hR aI;obtain⟨a,b,c⟩:=R;have bd:=ao (cR w (dG n d));obtain⟨⟨a0,ew⟩,_⟩:=ec bd.out;go_enter Tryz.func247,Tryz.ntmps247;go_wp2_with fail;with_reducible refine (bG.out _).mono ?_
 rintro e bt ⟨rfl,ay⟩;have dy:=ao ((bh w (dG n d)).trans (ay.mono (bh w (dG n d)).size));obtain⟨⟨aV,aT⟩,_⟩:=ec (ba bd.out ay);have dO:=ao (ba (ba bd.out ay) (bh bt (dG a b)));obtain⟨⟨d0,d1⟩,_⟩:=ec dO.out;clear ay a0 ew;by_cases aB:c=0
 ·subst aB;obtain⟨av6,av7,eG,fT⟩:=b9.out rfl;have hs:=bH.out;unfold Vi at hs;rw[aN (by simp)] at hs;have wB:¬d=0:=(by omega);have Vj:=ao (dy.out.trans ((bh bt (dG a b)).mono dy.out.size));clear bH b9 bG;by_cases au:u=1
  ·subst au;rw[aN (by simp),aW rfl] at hs;have bk:wrap64 (n *10000000)=n *10000000:=qo _ (by omega);obtain⟨G,EX⟩:=aq (n *10000000);have an2:-10737418240000000≤G∧G≤10737418240000000:=(by omega);rw[EX] at bk hs;rcases acz hs with ⟨eB,rfl,rfl⟩|⟨eB,bI,rfl,rfl⟩|⟨eB,bI,bJ,rfl,rfl⟩|⟨eB,bI,bJ,rfl,rfl⟩
   all_goals
    clear hs;go_wp2_with fail;go_ret2;exact⟨rfl,Vj.out⟩
  ·by_cases ax:u=2
   ·subst ax;rw[aN (by simp),aN (show ¬(2:Int)=1 by decide)] at hs;have bk:wrap64 (n *254000000)=n *254000000:=qo _ (by omega);obtain⟨G,EX⟩:=aq (n *254000000);have an2:-272730423296000000≤G∧G≤272730423296000000:=(by omega);rw[EX] at bk hs;rcases acz hs with ⟨eB,rfl,rfl⟩|⟨eB,bI,rfl,rfl⟩|⟨eB,bI,bJ,rfl,rfl⟩|⟨eB,bI,bJ,rfl,rfl⟩
    all_goals
     clear hs;go_wp2_with fail;go_ret2;exact⟨rfl,Vj.out⟩
   ·rw[aW ⟨au,ax⟩] at hs;obtain⟨rfl,rfl⟩:g=0∧hb=5:=(by simpa using hs);clear hs;go_wp2_with fail;go_ret2;exact⟨rfl,Vj.out⟩
 ·have hs:=bH.out;unfold Vi at hs;rw[aW aB] at hs;obtain⟨rfl,rfl⟩:g=0∧hb=5:=(by simpa using hs);have tK:¬(c:Int)=0:=(by omega);clear hs bH b9 bG;go_wp2_with fail;go_ret2;exact⟨rfl,dy.out.trans ((bh bt _).mono dy.out.size)⟩
end c1
namespace n2
open Go.RowKit gI ga jz Fr
def rS(w:aeo)(p:Ja)(l:List (Int×Int)):Prop:=
 0<l.length→∃b o,p=some ⟨b,o,none⟩∧∀i (hi:i<l.length),ak w b (o+i *2) (I l[i].1)∧ak w b (o+i *2+1) (I l[i].2)
theorem rS.nil(w:aeo)(p:Ja):rS w p []:=fun h=>absurd h (by simp)
variable{w:aeo}
theorem rS.below{w':aeo}{p:Ja}{l:List (Int×Int)}(h:rS w p l)(ay:an w w w'):rS w' p l:=by intro az;obtain⟨b,o,hp,aB⟩:=h az;refine⟨b,o,hp,fun i hi=>?_⟩;obtain⟨au,ax⟩:=aB i hi;have bm:=Mem.Cf au;exact⟨(ay.cell (p:=⟨b,o+i *2,none⟩) bm).trans au,(ay.cell (p:=⟨b,o+i *2+1,none⟩) bm).trans ax⟩
theorem uc(l:List (Int×Int))(i:Nat)(hi:i<l.length):(hL.e' l)[i *2]?=some (I l[i].1)∧(hL.e' l)[i *2+1]?=some (I l[i].2):=by
 induction l generalizing i with
 |nil=>simp at hi
 |cons x l cU=>
  cases i with
  |zero=>exact⟨rfl,rfl⟩
  |succ i=>
   have h:=cU i (by simpa using hi);have e:(i+1) *2=i *2+1+1:=(by omega);rw[e];exact⟨h.1,h.2⟩
theorem an3{B:Nat}{e:aai}{v:ada}{l:List (Int×Int)}(h:w.ownsRow B e 2 v l.length (hL.e' l)):∃p c,v=ad p l.length c∧rS w p l∧l.length≤c∧(p=none∨∃g,p=some ⟨g,0,none⟩∧B≤g):=by
 rcases h.2 with ⟨rfl,aF⟩|⟨g,cap,cur,rfl,ay,aI,y5,nO,eD,Hz⟩
 ·obtain rfl:l=[]:=lP aF;exact⟨none,0,rfl,rS.nil _ _,aP _,.inl rfl⟩
 ·refine⟨some ⟨g,0,none⟩,cap,rfl,fun _=>⟨g,0,rfl,fun i hi=>?_⟩,y5,.inr ⟨g,rfl,ay⟩⟩;have hp:=uc l i hi;rw[jt,h.cellAt (i *2) (by omega),h.cellAt (i *2+1) (by omega)];exact hp
theorem an4{B:Nat}{e:aai}{g c:Nat}{l:List (Int×Int)}(h:w.ownsRow B e 2 (ag g 0 l.length c) l.length (hL.e' l))(k:Nat)(aw:k≤l.length):
  w.ownsRow B e 2 (ag g 0 k c) k (hL.e' (l.take k)):=by
 have az:(hL.e' (l.take k)).length=k *2:=by rw[hL.Hf,lz,yL aw]
 refine⟨az,?_⟩;rcases h.2 with ⟨eQ,_⟩|⟨mG,k7,cur,eQ,ay,aI,y5,nO,eD,Hz⟩
 ·simp at eQ
 ·simp only[JJ,r0,PN,JK,true_and] at eQ;obtain⟨rfl,rfl⟩:=eQ;refine .inr ⟨g,c,cur,rfl,ay,aI,by omega,nO,eD,?_⟩;have aY:hL.e' l=hL.e' (l.take k)++hL.e' (l.drop k):=(by rw[←hL.OB,Gg]);have a6:cur.toList.take (k *2)=(cur.toList.take (l.length *2)).take (k *2):=(by rw[xh,yL (by omega)]);rw[a6,Hz,aY,←az,Ni]
theorem FM{a b:Bool}(h:a=b):Ending.returned (U a)=ab (U b):=by rw[h]
abbrev an5(k n:Int):Value:=.agg #[I k,I n]
abbrev Ii(k n:Int):Obj:=.cells #[I k,I n] 313
theorem Bd(w:aeo)(k n:Int):an w w (w.alloc (Ii k n)):=(Below.refl _ _).alloc (aP _) _
theorem acA(k n:Int)(b:Bool)(ay:af (jd k n=b))(w:aeo):
    Calls Tryz.prog 216 #[an5 k n] w (acv b w):=by
  have hT:=ay.out;unfold jd at hT;by_cases au:k=1
  · subst au
    rw[aW rfl] at hT;by_cases aF:0≤n
    · rw[gx aF,Gp] at hT
      have mL:af (r2 n=b):=hT;clear ay hT;go_enter FG,FH;go_wp2_with fail;with_reducible refine (Hh n _).mono ?_
      rintro b3 w' ⟨rfl,rfl⟩;go_wp2_with fail;go_ret;exact⟨FM mL.out,Bd _ _ _⟩
    · have aJ:af (b=false):=by show _=_;rw[←hT,fJ aF,Gq]
      clear ay hT;go_enter FG,FH;go_wp2_with fail;go_ret;exact⟨FM aJ.out.symm,Bd _ _ _⟩
  · by_cases ax:k=2
    · subst ax
      rw[aN (by decide),aW rfl] at hT;by_cases aF:1≤n
      · by_cases acB:n≤99
        · have aJ:af (b=true):=by show _=_;rw[←hT,gx ⟨aF,acB⟩]
          clear ay hT;go_enter FG,FH;go_wp2_with fail;go_ret;exact⟨FM aJ.out.symm,Bd _ _ _⟩
        · have aJ:af (b=false):=by show _=_;rw[←hT,fJ (fun h=>acB h.2)]
          clear ay hT;go_enter FG,FH;go_wp2_with fail;go_ret;exact⟨FM aJ.out.symm,Bd _ _ _⟩
      · have aJ:af (b=false):=by show _=_;rw[←hT,fJ (fun h=>aF h.1)]
        clear ay hT;go_enter FG,FH;go_wp2_with fail;go_ret;exact⟨FM aJ.out.symm,Bd _ _ _⟩
    · rw[aN au,aN ax] at hT
      have t1:(k==1)=false:=(by simp[au]);have t2:(k==2)=false:=(by simp[ax]);by_cases fC:3≤k∧k≤7
      · rw[aW fC] at hT
        have aJ:af ((n==0)=b):=(by show _=_;rw[←hT];by_cases h:n=0<;>simp[h]);have aw:k=3∨k=4∨k=5∨k=6∨k=7:=(by omega);clear ay hT fC au ax t1 t2
        rcases aw with rfl|rfl|rfl|rfl|rfl<;>
          (go_enter FG,FH
           go_wp2_with fail;go_ret;exact⟨FM aJ.out,Bd _ _ _⟩)
      · rw[aN fC] at hT
        have aJ:af (b=false):=(by show _=_;rw[←hT]);have t3:(k==3)=false:=(by simp;omega);have t4:(k==4)=false:=(by simp;omega);have t5:(k==5)=false:=(by simp;omega);have t6:(k==6)=false:=(by simp;omega);have t7:(k==7)=false:=(by simp;omega);clear ay hT fC au ax;go_enter FG,FH;go_wp2_with fail;go_ret;exact⟨FM aJ.out.symm,Bd _ _ _⟩
theorem Vk(k:Int)(m:Int)(hm:af ((uz k:Int)=m))(w:aeo):
  Calls Tryz.prog 217 #[I k] w fun e w'=>e=ab (I m)∧w'=w:=by
 have r':=hm.out;unfold uz at r';by_cases au:k=1
 ·subst au;have bN:af (0=m):=r';go_enter P4,P5;go_wp2_with fail;go_ret;exact⟨sw bN.out,rfl⟩
 ·by_cases ax:k=2
  ·subst ax;have bN:af (0=m):=r';go_enter P4,P5;go_wp2_with fail;go_ret;exact⟨sw bN.out,rfl⟩
  ·rw[aN (by omega)] at r';have t1:(k==1)=false:=(by simp[au]);have t2:(k==2)=false:=(by simp[ax]);by_cases cY:k=7
   ·subst cY;have bN:af (1=m):=r';clear hm r' t1 t2;go_enter P4,P5;go_wp2_with fail;go_ret;exact⟨sw bN.out,rfl⟩
   ·rw[aN cY] at r';have bN:af (2=m):=r';have t7:(k==7)=false:=(by simp[cY]);clear hm r' au ax cY;go_enter P4,P5;go_wp2_with fail;go_ret;exact⟨sw bN.out,rfl⟩
end n2
namespace c1
open Go.RowKit ef
open n2 (iq dG ec vu uc)
open hL (e')
abbrev Be:TypeId:=294
abbrev n5:TypeId:=268
def gC(e x:Nat):Nat:=if e=0 then x else e
structure e3(T V:Nat)(vs:List (Int×Int))(u:Int)(k e:Nat)(w:aeo):Prop where
 t:al w T (#[ad (some (aj V 0)) vs.length vs.length,I (k:Int),I u,I (e:Int)]) Be
 v:al w V ((e' vs).toArray) n5
abbrev mT(T V:Nat)(vs:List (Int×Int))(u:Int)(k e:Nat)(w w':aeo):Prop:=e3 T V vs u k e w'∧aK (fun b=>b≠T) w w'
section
variable{T V:Nat}{vs:List (Int×Int)}{u:Int}{k e:Nat}{x y w:aeo}
theorem e3.below(h:e3 T V vs u k e x)(ay:an x x y):e3 T V vs u k e y:=⟨ba h.t ay,ba h.v ay⟩
theorem e3.self(h:e3 T V vs u k e x)(ay:an x x y):mT T V vs u k e x y:=⟨h.below ay,.c4 ay⟩
theorem e3.keep{S:afp}(h:e3 T V vs u k e x)(aw:aK S x y)(dm:S T)(jK:S V):e3 T V vs u k e y:=⟨aw.get dm h.t,aw.get jK h.v⟩
theorem e3.ne(h:e3 T V vs u k e x):V≠T:=g' h.v h.t (by decide)
theorem e3.put(h:e3 T V vs u k e x)(j:Nat):mT T V vs u j e x (x.setCell (aj T 1) (I (j:Int))):=⟨⟨dt (k:=T) (i:=1) _ h.t,(tn h.ne).trans h.v⟩,.ne _⟩
theorem e3.err(h:e3 T V vs u k e x)(f:Nat):mT T V vs u k f x (x.setCell (aj T 3) (I (f:Int))):=⟨⟨dt (k:=T) (i:=3) _ h.t,(tn h.ne).trans h.v⟩,.ne _⟩
theorem e3.at(h:e3 T V vs u k e x){v:Int×Int}(aS:vs[k]?=some v):(ak x V (k *2) (I v.1)∧ak x V (k *2+1) (I v.2))∧(k:Int)<vs.length:=by obtain⟨aw,rfl⟩:=List.getElem?_eq_some_iff.1 aS;obtain⟨au,ax⟩:=uc vs k aw;exact⟨⟨cell_of h.v (by simpa using au),cell_of h.v (by simpa using ax)⟩,by omega⟩
theorem Bf{a b c d:ada}(h:al w T (#[a,b,c,d]) Be):(ak w T 0 a∧ak w T 1 b∧ak w T 2 c∧ak w T 3 d)∧∀i,w.frozen? ⟨T,i,none⟩=false:=by refine⟨⟨?_,?_,?_,?_⟩,fun i=>dc h i⟩<;>simp[World.cell?,h]
end
theorem aK.new{S R:afp}{w x y:aeo}(h:aK S w x)(g:aK R x y)(hR:∀k,k<w.heap.size→R k):aK S w y:=⟨g.os.trans h.os,g.tape.trans h.tape,g.output.trans h.output,cd h.size g.size,fun k aw az=>(g.block k (hR k az) (hN az h.size)).trans (h.block k aw az)⟩
theorem mF(T V:Nat)(vs:List (Int×Int))(u:Int)(k e:Nat)(v:Int×Int)(w:aeo)(H:af (e3 T V vs u k e w))(aS:vs[k]?=some v)(az:vs.length≤100000):
  Calls Tryz.prog 220 #[ah T 0] w fun b3 w'=>b3=ab (iq v.1 v.2)∧mT T V vs u (k+1) e w w':=by
 obtain⟨⟨v0,v1⟩,la⟩:=H.out.at aS;have kL:k<vs.length:=by omega
 have au:wrap64 ((k:Int)+1)=(k:Int)+1:=qo _ (by omega);have cM:=ao aS;clear aS;obtain⟨⟨t0,t1,t2,t3⟩,nY⟩:=Bf H.out.t;have lt:=lt_of_heap H.out.t;have er:=lt_of_heap H.out.v;go_enter Tryz.func220,Tryz.ntmps220;go_upto_region 1 with fail;go_region;go_wp2_with fail;have bH:=(H.out.put (k+1)).1.below (D5 _ (dG v.1 v.2) (dG v.1 v.2));have en:=(H.out.put (k+1)).2.trans (.c4 (D5 _ (dG v.1 v.2) (dG v.1 v.2)));have hs:(w.setCell (aj T 1) (I ((k:Int)+1))).heap.size=w.heap.size:=Sl _ _ _;have hr:=(show _=_ from ba (cR (w.setCell (aj T 1) (I ((k:Int)+1))) (dG v.1 v.2)) (bh _ (dG v.1 v.2)));rw[hs] at hr;exact cL (sg rfl _ _ w.heap.size _ _ _ _ rfl hr Tryz.underlying268 rfl (by kernel_rfl)) rfl ⟨rfl,bH.below (iu (Below.refl _ _) 1),en.trans (.c4 (iu (Below.refl _ _) 1))⟩
theorem acC(T V:Nat)(vs:List (Int×Int))(u:Int)(k e f:Nat)(w:aeo)(H:af (e3 T V vs u k e w)):
  Calls Tryz.prog 221 #[ah T 0,I (f:Int)] w fun b3 w'=>(∃v,b3=ab v)∧mT T V vs u k (gC e f) w w':=by
 obtain⟨⟨t0,t1,t2,t3⟩,nY⟩:=Bf H.out.t;by_cases he:e=0
 ·subst he;have bH:=ao (H.out.err f);go_enter Tryz.func221,Tryz.ntmps221;go_wp2_with fail;go_end0;exact⟨⟨_,rfl⟩,bH.out⟩
 ·have Bg:¬(e:Int)=0:=(by omega);have bH:=ao (show mT T V vs u k (gC e f) w w by unfold gC;rw[aN he];exact⟨H.out,.refl _ _⟩);go_enter Tryz.func221,Tryz.ntmps221;go_wp2_with fail;go_end0;exact⟨⟨_,rfl⟩,bH.out⟩
theorem EK(T V:Nat)(vs:List (Int×Int))(u:Int)(k e:Nat)(v:Int×Int)(w:aeo)(H:af (e3 T V vs u k e w))(aS:af (vs[k]?=some v))(az:vs.length≤100000):
  Calls Tryz.prog 244 #[ah T 0] w fun b3 w'=>b3=ab (I (kG v.1 v.2 u).1)∧mT T V vs u (k+1) (gC e (kG v.1 v.2 u).2) w w':=by
 have bG:=ao (fun (Z:aeo) (h:e3 T V vs u k e Z)=>mF T V vs u k e v Z (ao h) aS.out az);have aU:=ao (fun Z=>an1 v.1 v.2 u Z);obtain⟨R,hR⟩:=aq (kG v.1 v.2 u);rw[hR] at aU⊢;clear hR;obtain⟨g,f⟩:=R;have aJ:=ao (fun (Z:aeo) (h:e3 T V vs u (k+1) e Z)=>acC T V vs u (k+1) e f Z (ao h));obtain⟨⟨t0,t1,t2,t3⟩,nY⟩:=Bf H.out.t;go_enter Tryz.func244,Tryz.ntmps244;go_upto_region 1 with fail
 go_region_with (first|(go_at_call 220;with_reducible refine (bG.out _ (by first|exact H.out|exact H.out.below ((Below.refl _ _).drew))).mono ?_;rintro b3 bt ⟨rfl,dm,hK⟩;obtain⟨⟨s0,s1,s2,kV⟩,acD⟩:=Bf dm.t)|(go_at_call 247;with_reducible refine (aU.out _).mono ?_;rintro b3 db ⟨rfl,eF⟩))
 all_goals
  have dr:=ao (dm.below eF);have en:=ao (show aK (fun b=>b≠T) w db from aK.trans (by first|exact hK|exact aK.trans (.c4 ((Below.refl _ _).drew)) hK) (.c4 eF));clear t0 t1 t2 t3 nY s0 s1 s2 kV acD dm eF bG aU hK;go_wp2_with fail;with_reducible refine (aJ.out _ (by first|exact dr.out|exact dr.out.below ((Below.refl _ _).drew))).mono ?_
  rintro b3 bZ ⟨⟨v4,rfl⟩,bb,h7⟩;have ko:=ao (show aK (fun b=>b≠T) w bZ from en.out.trans (by first|exact h7|exact aK.trans (.c4 ((Below.refl _ _).drew)) h7));clear h7;go_wp2_with fail;go_ret;exact⟨rfl,bb,ko.out⟩
theorem Ij(T V:Nat)(vs:List (Int×Int))(u:Int)(k e:Nat)(x y:Int×Int)(w:aeo)(H:af (e3 T V vs u k e w))(hx:af (vs[k]?=some x))(hy:af (vs[k+1]?=some y))(az:vs.length≤100000):
  Calls Tryz.prog 235 #[ah T 0] w fun b3 w'=>b3=ab (.agg #[I (kG x.1 x.2 u).1,I (kG y.1 y.2 u).1])∧mT T V vs u (k+1+1) (gC (gC e (kG x.1 x.2 u).2) (kG y.1 y.2 u).2) w w':=by
 have cK:=ao (fun (Z:aeo) (h:e3 T V vs u k e Z)=>EK T V vs u k e x Z (ao h) hx az);obtain⟨X,b2⟩:=aq (kG x.1 x.2 u);rw[b2] at cK⊢;have fq:=ao (fun (Z:aeo) (h:e3 T V vs u (k+1) (gC e X.2) Z)=>EK T V vs u (k+1) _ y Z (ao h) hy az);obtain⟨Y,e7⟩:=aq (kG y.1 y.2 u);rw[e7] at fq⊢;clear b2 e7;obtain⟨nv,xO⟩:=X;obtain⟨n7,qh⟩:=Y;have cJ:=ao (cR w (ai (#[I 0,I 0]) de));have H1:=ao (H.out.self (bh w (ai (#[I 0,I 0]) de)));have dr:af (w.heap.size≠T):=by have:=lt_of_heap H.out.t;show _≠_;omega
 go_enter Tryz.func235,Tryz.ntmps235;go_wp2_with fail;with_reducible refine (cK.out _ H1.out.1).mono ?_
 rintro b3 bt ⟨rfl,ax,bM⟩;have bp:=ao (ax);have kX:=ao (bM.get dr.out cJ.out);have gW:=ao (H1.out.2.trans bM);clear ax bM cK;go_wp2_with fail;with_reducible refine (fq.out _ bp.out).mono ?_
 rintro b3 db ⟨rfl,aA,fk⟩;have bW:=ao aA;have jj:=ao (fk.get dr.out kX.out);have jw:=ao (gW.out.trans fk);have f0:=dc jj.out;have z0:=cell_of (i:=0) jj.out rfl;have z1:=cell_of (i:=1) jj.out rfl;have mf:=ao (lt_of_heap H.out.v);clear aA fk;go_wp2_with fail;refine lh (P:=bodyPost _ _ _ _ _) [I nv,I n7] jj.out rfl fun cZ g1 g2=>?_;exact cL (sg rfl _ _ w.heap.size _ _ _ _ rfl g1 Tryz.underlying38 rfl (by kernel_rfl)) rfl ⟨rfl,bW.out.keep g2 dr.out.symm (qn mf.out),jw.out.new g2 fun k aw=>qn aw⟩
def kg(e:Nat)(r:Int×Nat):Nat:=if r.1.tmod 2≠0 then gC (if r.1<0 then gC (gC e r.2) 4 else gC e r.2) 7 else if r.1<0 then gC (gC e r.2) 4 else gC e r.2
theorem acE{g B:Int}(h:-B≤g∧g≤B):-B≤g.tdiv 2∧g.tdiv 2≤B:=by
 rcases Nz 0 g with aF|aF
 ·rw[FI aF];omega
 ·have e:g.tdiv 2= -((-g).tdiv 2):=(by rw[Int.neg_tdiv,Int.neg_neg]);rw[e,FI (by omega)];omega
abbrev Bh(T V:Nat)(vs:List (Int×Int))(u:Int)(k e:Nat)(c:Int)(f:Nat):Prop:=∀Z,e3 T V vs u k e Z→Calls Tryz.prog 221 #[ah T 0,I c] Z fun b3 w'=>(∃v,b3=ab v)∧mT T V vs u k (gC e f) Z w'
theorem C3(T V:Nat)(vs:List (Int×Int))(u:Int)(k e:Nat)(f:Nat):Bh T V vs u k e (f:Int) f:=fun Z h=>acC T V vs u k e f Z (ao h)
theorem FN(T V:Nat)(vs:List (Int×Int))(u:Int)(k e:Nat)(v:Int×Int)(w:aeo)(H:af (e3 T V vs u k e w))(aS:af (vs[k]?=some v))(az:vs.length≤100000):
  Calls Tryz.prog 234 #[ah T 0] w fun b3 w'=>b3=ab (I ((kG v.1 v.2 u).1.tdiv 2))∧mT T V vs u (k+1) (kg e (kG v.1 v.2 u)) w w':=by
 have bG:=ao (EK T V vs u k e v w H aS az);have fC:=Ih v.1 v.2 u;obtain⟨R,hR⟩:=aq (kG v.1 v.2 u);rw[hR] at bG fC⊢;clear hR;obtain⟨g,f⟩:=R;have fC:-536870912≤g∧g≤536870912:=fC;have r7:af (Bh T V vs u (k+1) (gC e f) 4 4):=C3 T V vs u (k+1) (gC e f) 4;have P6:af (∀e,Bh T V vs u (k+1) e 7 7):=fun e=>C3 T V vs u (k+1) e 7;have aE:=acE fC;have aG:wrap64 (g.tdiv 2)=g.tdiv 2:=qo _ (by omega);clear aE
 have key:af ((g<0∧(g.tmod 2 !=0)=true∧kg e (g,f)=gC (gC (gC e f) 4) 7)∨(g<0∧(g.tmod 2 !=0)=false∧kg e (g,f)=gC (gC e f) 4)∨(¬g<0∧(g%2 !=0)=true∧kg e (g,f)=gC (gC e f) 7)∨(¬g<0∧(g%2 !=0)=false∧kg e (g,f)=gC e f)):=by
  show _∨_;unfold kg;simp only;by_cases aF:g<0
  ·by_cases ax:g.tmod 2=0<;>simp[aF,ax]
  ·have a6:g%2=g.tmod 2:=(Bb (by omega)).symm;rw[a6];by_cases ax:g.tmod 2=0<;>simp[aF,ax]
 rcases key.out with ⟨aF,ax,ft⟩|⟨aF,ax,ft⟩|⟨aF,ax,ft⟩|⟨aF,ax,ft⟩
 all_goals
  have cc:=ao ft;clear ft key;go_enter Tryz.func234,Tryz.ntmps234;go_wp2_with fail;with_reducible refine bG.out.mono ?_
  rintro b3 bt ⟨rfl,aA,fk⟩;have dr:=ao aA;have en:=ao fk;clear aA fk;go_wp2_with (go_at_call 221;first|(with_reducible refine (r7.out _ dr.out).mono ?_;rintro b3 db ⟨⟨v3,rfl⟩,aA,fk⟩)|(with_reducible refine (P6.out _ _ dr.out).mono ?_;rintro b3 bZ ⟨⟨v4,rfl⟩,bb,h7⟩)|(with_reducible refine (P6.out _ _ aA).mono ?_;rintro b3 bZ ⟨⟨v4,rfl⟩,bb,h7⟩));go_ret;rw[cc.out];refine⟨Gr (by first|rfl|exact (FI (by omega)).symm),?_⟩;first|exact⟨bb,(en.out.trans fk).trans h7⟩|exact⟨bb,en.out.trans h7⟩|exact⟨aA,en.out.trans fk⟩|exact⟨dr.out,en.out⟩
end c1
namespace c1
open Go.RowKit ef
open n2 (iq dG ec vu uc)
abbrev P7:Obj:=.cells #[U false,U false,I 0,I 0,I 0] 136
def cb(v:Int×Int):Int:=(v.1.tdiv 90).tmod 4
def C4(e:Nat)(v:Int×Int):Nat:=if v.2≠1∨v.1.tmod 90≠0 then gC e 7 else e
theorem an6(v:Int×Int):-3≤cb v∧cb v≤3:=by
 unfold cb;obtain⟨g,aI⟩:=aq (v.1.tdiv 90);rw[aI];rcases Nz 0 g with h|h
 ·rw[Bb h];omega
 ·have e:g.tmod 4= -((-g).tmod 4):=(by rw[Int.neg_tmod,Int.neg_neg]);rw[e,Bb (by omega)];omega
theorem an7{g B c:Int}(aB:0<c)(h:-B≤g∧g≤B):-B≤g.tdiv c∧g.tdiv c≤B:=by
 rcases Nz 0 g with aF|aF
 ·rw[FI aF];have:=Int.ediv_le_self c aF;have:=Int.ediv_nonneg aF (Int.le_of_lt aB);omega
 ·have e:g.tdiv c= -((-g).tdiv c):=(by rw[Int.neg_tdiv,Int.neg_neg]);rw[e,FI (by omega)];have:=Int.ediv_le_self c (show 0≤-g by omega);have:=Int.ediv_nonneg (show 0≤-g by omega) (Int.le_of_lt aB);omega
theorem an8(T V:Nat)(vs:List (Int×Int))(u:Int)(e:Nat)(w:aeo)(H:af (e3 T V vs u vs.length e w)):
  Calls Tryz.prog 227 #[ah T 0] w fun b3 w'=>b3=ab (rp mX)∧mT T V vs u vs.length e w w':=by
 obtain⟨⟨t0,t1,t2,t3⟩,nY⟩:=Bf H.out.t;have lt:=lt_of_heap H.out.t;have H1:=ao (H.out.self (bh w P7));have he:((vs.length:Int)==(vs.length:Int))=true:=by simp
 go_enter Tryz.func227,Tryz.ntmps227;go_upto_region 1 with fail;go_region;go_wp2_with fail;exact cL (sg rfl _ _ w.heap.size _ _ _ _ rfl (cR w P7) Tryz.underlying136 rfl (by kernel_rfl)) rfl ⟨rfl,(H1.out.1.below (iu (Below.refl _ _) 1)),H1.out.2.trans (.c4 (iu (Below.refl _ _) 1))⟩
theorem an9(T V:Nat)(vs:List (Int×Int))(u:Int)(k e:Nat)(v:Int×Int)(w:aeo)(H:af (e3 T V vs u k e w))(aS:af (vs[k]?=some v))(az:vs.length≤100000)(ay:-1073741824≤v.1∧v.1≤1073741824):
    Calls Tryz.prog 227 #[ah T 0] w fun b3 w'=>b3=ab (rp {mX with q:=cb v})∧mT T V vs u (k+1) (C4 e v) w w':=by
  obtain⟨⟨t0,t1,t2,t3⟩,nY⟩:=Bf H.out.t;have lt:=lt_of_heap H.out.t;have cJ:=ao (cR w P7);have H1:=ao (H.out.self (bh w P7));have dr:af (w.heap.size≠T):=(by show _≠_;omega);have mf:=ao (lt_of_heap H.out.v);have aw:=(H.out.at aS.out).2;have he:((k:Int)==(vs.length:Int))=false:=beq_eq_false_iff_ne.2 (by omega);have bG:=ao (fun (Z:aeo) (h:e3 T V vs u k e Z)=>mF T V vs u k e v Z (ao h) aS.out az);have P6:af (Bh T V vs u (k+1) e 7 7):=C3 T V vs u (k+1) e 7;have key:af (((v.2 !=1)=true∧C4 e v=gC e 7)∨((v.2 !=1)=false∧(v.1.tmod 90 !=0)=true∧C4 e v=gC e 7)∨((v.2 !=1)=false∧(v.1.tmod 90 !=0)=false∧C4 e v=e)):=(by show _∨_;unfold C4;by_cases aF:v.2=1<;>by_cases ax:v.1.tmod 90=0<;>simp[aF,ax]);have bn:af (cb v=(v.1.tdiv 90).tmod 4∧-3≤cb v∧cb v≤3):=⟨rfl,an6 v⟩;obtain⟨n,d⟩:=v;have ay:-1073741824≤n∧n≤1073741824:=ay;rcases key.out with ⟨eB,ft⟩|⟨eB,bI,ft⟩|⟨eB,bI,ft⟩
  all_goals
    have cc:=ao ft;clear ft key;go_enter Tryz.func227,Tryz.ntmps227;go_upto_region 1 with fail;go_region;go_wp2_with fail;with_reducible refine (bG.out _ (by first|exact H1.out.1|exact H1.out.1.below ((Below.refl _ _).drew))).mono ?_
    rintro a6 bt ⟨rfl,ax,bM⟩;have bp:=ao ax;have kX:=ao (bM.get dr.out (by first|exact cJ.out|exact ba cJ.out ((Below.refl _ _).drew)));have gW:=ao (show aK (fun b=>b≠T) w bt from H1.out.2.trans (by first|exact bM|exact aK.trans (.c4 ((Below.refl _ _).drew)) bM));have lw:=lt_of_heap kX.out;clear ax bM t0 t1 t2 t3 nY bG;go_upto_region 6 with (go_at_call 221;(with_reducible refine (P6.out _ (bp.out.below (bh bt (dG n d)))).mono ?_);rintro b3 db ⟨⟨v3,rfl⟩,aA,fk⟩)
    first
      | (have bW:=ao aA
         have jw:=ao ((gW.out.trans (.c4 (bh bt (dG n d)))).trans fk);have jj:=ao (fk.get dr.out (ba kX.out (bh bt (dG n d))));have fz:=ao (fk.get (by have:=gW.out.size;omega) (cR bt (dG n d)));clear aA fk)
      | (have bW:=ao (bp.out.below (bh bt (dG n d)))
         have jw:=ao (gW.out.trans (.c4 (bh bt (dG n d))));have jj:=ao (ba kX.out (bh bt (dG n d)));have fz:=ao (cR bt (dG n d));generalize bt.alloc (dG n d)=db at bW jw jj fz⊢)
    obtain⟨⟨du,dI⟩,_⟩:=ec fz.out;have av8:=lt_of_heap jj.out;have f0:=dc jj.out;have z0:=cell_of (i:=0) jj.out rfl;have z1:=cell_of (i:=1) jj.out rfl;have z2:=cell_of (i:=2) jj.out rfl;have z3:=cell_of (i:=3) jj.out rfl;have z4:=cell_of (i:=4) jj.out rfl;have hd:=an7 (c:=90) (by decide) ay;have lB:wrap64 (n.tdiv 90)=n.tdiv 90:=qo _ (by omega);have J5:wrap64 ((n.tdiv 90).tmod 4)=(n.tdiv 90).tmod 4:=(by have:=bn.out;exact qo _ (by omega));clear hd;go_wp2_with fail;rw[cc.out];refine lh (P:=bodyPost _ _ _ _ _) [U false,U false,I (cb (n,d)),I 0,I 0] jj.out rfl fun cZ g1 g2=>?_;exact cL (sg rfl _ _ w.heap.size _ _ _ _ rfl g1 Tryz.underlying136 rfl (by kernel_rfl)) rfl ⟨rfl,bW.out.keep g2 dr.out.symm (qn mf.out),jw.out.new g2 fun k aw=>qn aw⟩
theorem Vl(x y a b:Int)(hx:-1000000000≤x∧x≤1000000000)(hy:-1000000000≤y∧y≤1000000000)(ha:-1000000000≤a∧a≤1000000000)(ay:-1000000000≤b∧b≤1000000000)(w:aeo):Calls Tryz.prog 236 #[.agg #[I x,I y],I a,I b] w (yh w (mZ [xb (x,y) a b])):=by
 have aY:wrap64 (x-a)=x-a:=qo _ (by omega);have a6:wrap64 (y-b)=y-b:=qo _ (by omega);have cV:wrap64 (x+a)=x+a:=qo _ (by omega);have iI:wrap64 (y+b)=y+b:=qo _ (by omega);go_enter Tryz.func236,Tryz.ntmps236;go_wp2_with fail;obtain⟨au,ax,aA,ay,_⟩:=DS (w:=w.alloc (ai (#[I x,I y]) de)) rfl;rw[s8] at au ax aA;refine cL (sg rfl _ _ (w.heap.size+1) _ _ _ _ rfl au pF rfl (by kernel_rfl)) rfl ⟨(bh w _).trans (ay.mono (by rw[s8];omega)),some ⟨w.heap.size+1+1+1,0,none⟩,1,rfl,⟨⟨show 1≤jr by decide,fun _=>⟨_,0,_,rfl,by omega,aA,?_⟩⟩,.nil _ _ _,aP _,aP _⟩⟩;intro i hi;obtain rfl:i=0:=by have:i<1:=hi;omega
 refine⟨some ⟨w.heap.size+1+1,0,none⟩,4,rfl,aP _,show 4≤jr by decide,fun _=>⟨_,0,_,rfl,by omega,ax,?_⟩⟩;intro i hi;have hi:i<4:=hi;rcases (show i=0∨i=1∨i=2∨i=3 by omega) with rfl|rfl|rfl|rfl<;>exact⟨rfl,rfl⟩
abbrev ic(u:Int)(v:Int×Int):Int×Nat:=kG v.1 v.2 u
abbrev qq(u:Int)(e:Nat)(x y:Int×Int):Nat:=gC (gC e (ic u x).2) (ic u y).2
abbrev pU(u:Int)(x y:Int×Int):b7:=((ic u x).1,(ic u y).1)
abbrev jq(u:Int)(v:Int×Int):Int:=(ic u v).1.tdiv 2
theorem LW(u:Int)(v:Int×Int):-536870912≤jq u v∧jq u v≤536870912:=acE (Ih _ _ _)
def LX(T V:Nat)(vs:List (Int×Int))(u:Int)(k e:Nat)(w:aeo)(b:dK)(ok:Bool)(b3:Ending)(w':aeo):Prop:=mT T V vs u k e w w'∧∃(pl:Ja) (cl:Nat),b3=ab (.tuple #[jc b (ad pl b.l.length cl) cC,U ok])∧dw (fun k=>w.heap.size≤k) w' pl cl none 0 ⟨b,.nil⟩
section
variable(T V:Nat)(vs:List (Int×Int))(u:Int)(k e:Nat)
theorem aoa(a x y:Int×Int)(w:aeo)(H:af (e3 T V vs u k e w))(ha:af (vs[k]?=some a))(hx:af (vs[k+1]?=some x))(hy:af (vs[k+1+1]?=some y))(az:vs.length≤100000):
  Calls Tryz.prog 222 #[ah T 0] w (LX T V vs u (k+1+1+1) (qq u (kg e (ic u a)) x y) w (mY (pU u x y) (jq u a)) (decide (0<jq u a))):=by
 have H1:=ao (H.out.self (bh w jh));have cJ:=ao (cR w jh);have dr:af (w.heap.size≠T):=by have:=lt_of_heap H.out.t;show _≠_;omega
 have mf:=ao (lt_of_heap H.out.v);have kr:=ao (fun Z (h:e3 T V vs u k e Z)=>FN T V vs u k e a Z (ao h) ha az);have kQ:=ao (fun e Z (h:e3 T V vs u (k+1) e Z)=>Ij T V vs u (k+1) e x y Z (ao h) hx hy az);obtain⟨r,hr⟩:=aq (jq u a);obtain⟨FO,tw⟩:=aq (kg e (ic u a));obtain⟨X,b2⟩:=aq (ic u x);obtain⟨Y,e7⟩:=aq (ic u y);unfold pU qq;unfold ic jq at *
 rw[hr,tw] at kr;rw[b2,e7] at kQ⊢;rw[hr,tw];clear hr tw b2 e7 ha hx hy;obtain⟨nv,xO⟩:=X;obtain⟨n7,qh⟩:=Y;go_enter Tryz.func222,Tryz.ntmps222;go_wp2_with fail;with_reducible refine (kr.out _ H1.out.1).mono ?_
 rintro a6 bt ⟨rfl,ax,bM⟩;have bp:=ao ax;have kX:=ao (bM.get dr.out cJ.out);have gW:=ao (H1.out.2.trans bM);clear ax bM;go_wp2_with fail;with_reducible refine (kQ.out _ _ bp.out).mono ?_
 rintro cV db ⟨rfl,aA,fk⟩;have bW:=ao aA;have jj:=ao (fk.get dr.out kX.out);have jw:=ao (gW.out.trans fk);obtain⟨z0,z1,z2,z3,z4,z5,gZ,gR,fM,z9⟩:=dQ jj.out;have f0:=dc jj.out;clear aA fk;go_wp2_with fail;refine lh (P:=bodyPost _ _ _ _ _) (js (mY (nv,n7) r) cC cC) jj.out rfl fun cZ g1 g2=>?_;exact cL (mw rfl _ _ w.heap.size _ _ _ _ rfl g1 pF rfl (by kernel_rfl)) rfl ⟨⟨bW.out.keep g2 dr.out.symm (qn mf.out),jw.out.new g2 fun k aw=>qn aw⟩,none,0,rfl,.bare _ _ _ _ _ _ _ rfl⟩
end
end c1
namespace c1
open Go.RowKit ef
open n2 (iq dG ec vu uc)
def Vm(a b:b7)(r:Int):dK:={fN with k:=4,a:=a,b:=b,r:=r}
section
variable(T V:Nat)(vs:List (Int×Int))(u:Int)(k e:Nat)
theorem aob(a x y eO ee:Int×Int)(w:aeo)(H:af (e3 T V vs u k e w))(ha:af (vs[k]?=some a))(hx:af (vs[k+1]?=some x))(hy:af (vs[k+1+1]?=some y))(qc:af (vs[k+1+1+1]?=some eO))(acF:af (vs[k+1+1+1+1]?=some ee))(az:vs.length≤100000):
  Calls Tryz.prog 223 #[ah T 0] w (LX T V vs u (k+1+1+1+1+1) (qq u (qq u (kg e (ic u a)) x y) eO ee) w (Vm (pU u x y) (pU u eO ee) (jq u a)) (decide (0<jq u a)&&decide (pU u x y≠pU u eO ee))):=by
 have H1:=ao (H.out.self (bh w jh));have cJ:=ao (cR w jh);have dr:af (w.heap.size≠T):=by have:=lt_of_heap H.out.t;show _≠_;omega
 have mf:=ao (lt_of_heap H.out.v);have kr:=ao (fun Z (h:e3 T V vs u k e Z)=>FN T V vs u k e a Z (ao h) ha az);have kQ:=ao (fun e Z (h:e3 T V vs u (k+1) e Z)=>Ij T V vs u (k+1) e x y Z (ao h) hx hy az);have lA:=ao (fun e Z (h:e3 T V vs u (k+1+1+1) e Z)=>Ij T V vs u (k+1+1+1) e eO ee Z (ao h) qc acF az);obtain⟨r,hr⟩:=aq (jq u a);obtain⟨FO,tw⟩:=aq (kg e (ic u a));obtain⟨X,b2⟩:=aq (ic u x);obtain⟨Y,e7⟩:=aq (ic u y);obtain⟨j3,sE⟩:=aq (ic u eO);obtain⟨acG,O6⟩:=aq (ic u ee);unfold pU qq;unfold ic jq at *
 rw[hr,tw] at kr;rw[b2,e7] at kQ⊢;rw[sE,O6] at lA⊢;rw[hr,tw];clear hr tw b2 e7 ha hx hy sE O6 qc acF;obtain⟨nv,xO⟩:=X;obtain⟨n7,qh⟩:=Y;obtain⟨wQ,aoc⟩:=j3;obtain⟨yi,aod⟩:=acG;obtain⟨ok,fL⟩:=aq (decide (0<r)&&decide (((nv,n7):b7)≠(wQ,yi)))
 have mL:af ((decide (0<r)&&!(nv==wQ&&n7==yi))=ok):=by
  show _=_;rw[←fL]
  congr 1
  rw[decide_not,yN];simp
 rw[show (decide (0<r)&&decide (((nv,xO).fst,(n7,qh).fst)≠((wQ,aoc).fst,(yi,aod).fst)))=ok from fL];clear fL;go_enter Tryz.func223,Tryz.ntmps223;go_wp2_with fail;with_reducible refine (kr.out _ H1.out.1).mono ?_
 rintro a6 bt ⟨rfl,ax,bM⟩;have bp:=ao ax;have kX:=ao (bM.get dr.out cJ.out);have gW:=ao (H1.out.2.trans bM);clear ax bM;go_wp2_with fail;with_reducible refine (kQ.out _ _ bp.out).mono ?_
 rintro cV db ⟨rfl,aA,fk⟩;have bW:=ao (aA.self (bh db (ai (#[I nv,I n7]) de)));have jj:=ao (ba (fk.get dr.out kX.out) (bh db (ai (#[I nv,I n7]) de)));have jw:=ao ((gW.out.trans fk).trans bW.out.2);have nL:=ao (cR db (ai (#[I nv,I n7]) de));have qs:=ao (lt_of_heap aA.t);have AU:=ao fk.size;clear aA fk;go_upto_region 3 with fail;generalize db.alloc (.cells #[I nv,I n7] de)=bZ at bW jj jw nL⊢;go_wp2_with fail;with_reducible refine (lA.out _ _ bW.out.1).mono ?_
 rintro lu br ⟨rfl,bj,hl⟩;have lJ:=ao (bj.self (bh br (ai (#[I wQ,I yi]) de)));have nX:=ao (ba (hl.get dr.out jj.out) (bh br (ai (#[I wQ,I yi]) de)));have tV:=ao ((jw.out.trans hl).trans lJ.out.2);have x6:=ao (ba (hl.get (by have:=qs.out;omega) nL.out) (bh br (ai (#[I wQ,I yi]) de)));have LY:=ao (cR br (ai (#[I wQ,I yi]) de));have mB:af (db.heap.size≠w.heap.size):=g' nL.out jj.out (by decide);clear bj hl;go_upto_region 4 with fail;generalize br.alloc (.cells #[I wQ,I yi] de)=b' at lJ nX tV x6 LY⊢;have lb:af (br.heap.size≠w.heap.size):=g' LY.out nX.out (by decide);obtain⟨av9,acH⟩:=aq db.heap.size;obtain⟨awa,acI⟩:=aq br.heap.size;rw[acH] at x6 mB⊢;rw[acI] at LY lb⊢;clear acH acI nL;obtain⟨z0,z1,z2,z3,z4,z5,gZ,gR,fM,z9⟩:=dQ nX.out;have f0:=dc nX.out;have a0:=cell_of (i:=0) x6.out rfl;have ew:=cell_of (i:=1) x6.out rfl;have cH:=cell_of (i:=0) LY.out rfl;have cw:=cell_of (i:=1) LY.out rfl;have eG:=mB.out;have fT:=lb.out;have Ik:(¬0<r∧ok=false)∨(0<r∧¬nv=wQ∧ok=true)∨(0<r∧nv=wQ∧¬n7=yi∧ok=true)∨(0<r∧nv=wQ∧n7=yi∧ok=false):=by rw[←mL.out];by_cases aF:0<r<;>by_cases au:nv=wQ<;>by_cases ax:n7=yi<;>simp[aF,au,ax]
 clear mL;rcases Ik with ⟨aF,rfl⟩|⟨aF,au,rfl⟩|⟨aF,rfl,ax,rfl⟩|⟨aF,rfl,rfl,rfl⟩
 all_goals
  go_region;go_wp2_with fail;refine lh (P:=fun X=>bodyPost _ _ _ _ _ X.drew) (js (Vm (nv,n7) (_,_) r) cC cC) nX.out rfl fun cZ g1 g2=>?_;exact cL (mw rfl _ _ w.heap.size _ _ _ _ rfl (show cZ.drew.heap[w.heap.size]?=_ from g1) pF rfl (by kernel_rfl)) rfl ⟨⟨(lJ.out.1.keep g2 dr.out.symm (qn mf.out)).below ((Below.refl _ _).drew),(tV.out.new g2 fun k aw=>qn aw).trans (.c4 ((Below.refl _ _).drew))⟩,none,0,rfl,.bare _ _ _ _ _ _ _ rfl⟩
end
end c1
