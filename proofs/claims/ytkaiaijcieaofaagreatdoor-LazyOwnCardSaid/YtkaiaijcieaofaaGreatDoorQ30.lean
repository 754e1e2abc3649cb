/- Lemmas. -/
import Derived.Test.YtkaiaijcieaofaaGreatDoorQ29
set_option linter.all false
set_option maxRecDepth 100000
set_option maxHeartbeats 12800000
namespace Go.Proofs.YtkaiaijcieaofaaGreatDoor
abbrev F0:=@Proofs.Tryz.results156
abbrev IL:=@Proofs.Tryz.results113
namespace gK
open Go.RowKit gI ga jz Mem hL cB
inductive uf(B:Nat)(w:aeo):List (List (Int×Int))→aev→Prop
 |nil:uf B w [] []
 |cons {x:List (Int×Int)} {l:List (List (Int×Int))} {q:Ja} {k:Nat} {xs:aev}:l7 B w q x→uf B w l xs→uf B w (x::l) (ad q x.length k::xs)
theorem uf.keep{T:aai}{B:Nat}{w w':aeo}{l:List (List (Int×Int))}{xs:aev}(h:uf B w l xs)(aw:kx T w w')(dm:313≠T):uf B w' l xs:=by
 induction h with
 |nil=>exact .nil
 |cons a _ cU=>exact .cons (a.keep aw dm) cU
variable{B n k:Nat}{w:aeo}{q:Ja}
theorem uf.snoc{l:List (List (Int×Int))}{xs:aev}(h:uf B w l xs){x:List (Int×Int)}(k:Nat)(hx:l7 B w q x):uf B w (l++[x]) (xs++[ad q x.length k]):=by
 induction h with
 |nil=>exact .cons hx .nil
 |cons a _ cU=>exact .cons a cU
theorem uf.get{l:List (List (Int×Int))}{xs:aev}(h:uf B w l xs):∀(i:Nat) (hi:i<l.length),∃q c,xs[i]?=some (.slice q l[i].length c)∧l7 B w q l[i]:=by
 induction h with
 |nil=>exact fun i hi=>absurd hi (lS _)
 |cons a _ cU=>
  intro i hi;cases i with
  |zero=>exact⟨_,_,rfl,a⟩
  |succ i=>exact cU i (A0 hi)
variable{v:ada}
theorem apA{l:List (List (Int×Int))}{xs:aev}(h:w.ownsRow B 262 1 v l.length xs)(ha:uf B w l xs):∃p c,v=ad p l.length c∧j5 B w p l:=by
 rcases h.2 with ⟨au,ax⟩|⟨g,c,cur,au,ax,aA,bb,bj,b8,cY⟩
 ·exact⟨none,0,by rw[au,ax],fun az=>absurd az (by omega)⟩
 ·refine⟨_,c,au,fun az=>⟨g,0,cur,rfl,ax,aA,fun i hi=>?_⟩⟩;obtain⟨q,k,g1,g2⟩:=ha.get i hi;refine⟨q,k,?_,g2⟩;rw[jt,←yO,←g1,←cY,FU (by omega)]
structure Dj(w:aeo)(b:Nat)(n:Int)(kD:ada)(acc:List (List (Int×Int)))(W:aeo):Prop where
 gt:w.heap.size<b
 r:W.heap[w.heap.size]?=some Qn
 dz:al W b (#[I 3,I n,aa ⟨#[]⟩,kD]) 197
 row:∃xs,W.ownsRow w.heap.size 262 1 kD acc.length xs∧uf w.heap.size W acc xs
 aM:an w w W
theorem Dj.below{W jN:aeo}{b:Nat}{n:Int}{kD:ada}{acc:List (List (Int×Int))}(h:Dj w b n kD acc W)(ay:an W W jN):Dj w b n kD acc jN:=by obtain⟨xs,au,ax⟩:=h.row;exact⟨h.gt,ba h.r ay,ba h.dz ay,⟨xs,fY au ay,ax.keep (T:=0) (.c4 ay) (by decide)⟩,h.aM.trans (ay.mono h.aM.size)⟩
theorem Dj.push{W X bk:aeo}{b:Nat}{n:Int}{kD v':ada}{acc:List (List (Int×Int))}{xs:aev}{l:List (Int×Int)}(h:Dj w b n kD acc W)(hx:W.ownsRow w.heap.size 262 1 kD acc.length xs)(ha:uf w.heap.size W acc xs)(b2:an W W X)(aI:X.grownBy bk kD.ownBlock)(a1:bk.ownsRow w.heap.size 262 1 v' (acc.length+1) (xs++[ad q l.length k]))(az:l7 w.heap.size W q l):
  Dj w b n v' (acc++[l]) (bk.setCell (aj b 3) v')∧al bk b (#[I 3,I n,aa ⟨#[]⟩,kD]) 197:=by
 have au:=h.below b2;have qg:=fY hx b2;have lt:∀{k:Nat} {o:Obj},X.heap[k]?=some o→k<X.heap.size:=fun aw=>(Array.getElem?_eq_some_iff.1 aw).1;have hr:bk.heap[w.heap.size]?=some Qn:=(aI.block _ (lt au.r) (eN (nP qg au.r (by decide)))).trans au.r;have hp:al bk b (#[I 3,I n,aa ⟨#[]⟩,kD]) 197:=(aI.block _ (lt au.dz) (eN (nP qg au.dz (by decide)))).trans au.dz;have hK:kx 262 W bk:=(kx.c4 b2).trans (.grown qg aI);have apB:kx 197 bk (bk.setCell (aj b 3) v'):=.set hp v';refine⟨⟨h.gt,?_,?_,⟨_,?_,((ha.keep hK (by decide)).snoc k (az.keep hK (by decide))).keep apB (by decide)⟩,?_⟩,hp⟩
 ·exact (hC _ _ _ _ (by show w.heap.size≠b;have:=h.gt;omega)).trans hr
 ·rw[ke hp];rfl
 ·rw[show (acc++[l]).length=acc.length+1 by simp];exact tR a1 hp (by decide) _
 ·exact ((au.aM.grown aI au.aM.size (fun k aw=>(qg.lt _ aw).1))).setCell (k5 h.gt) _
def Mw(n:Int):Except Nat (List (List (Int×Int)))→Except Nat dN
 |.error e=>.error e
 |.ok l=>if lQ n l.length=true then .ok ⟨3,n,[],l⟩ else .error 3
theorem adA(f:Nat)(s:ar)(acc:List (List (Int×Int))):vN (f+1) s acc=if acc.length=1100 then .error 6 else match ph.uu (eJ 44 s).1 with
 |(l,_,e)=>if e≠0 then .error e else if (eJ 44 s).2.2=true then vN f (eJ 44 s).2.1 (acc++[l]) else .ok (acc++[l]):=rfl
variable{s d r:ar}
theorem apC(h:vM s=some (d,r))(sT:r.headD 0=44)(hp:rk d≠0):tb s=Mw (rk d) (vN (r.length+1) (r.drop 1) []):=by unfold tb;rw[h];simp only[];rw[aN (fun aE=>aE sT),aN hp];cases vN (r.length+1) (r.drop 1) []<;>rfl
theorem apD(h:vM s=some (d,r))(sT:r.headD 0=44)(hp:rk d=0):tb s=.error 8:=by unfold tb;rw[h];simp only[];rw[aN (fun aE=>aE sT),aW hp]
theorem apE(h:vM s=some (d,r))(sT:r.headD 0≠44):tb s=.error 3:=by unfold tb;rw[h];simp only[];rw[aW sT]
theorem apF(h:vM s=none):tb s=.error 3:=by unfold tb;rw[h]
theorem apG(d:ar)(h:rk d≠0):rk d=1∨rk d=4∨rk d=7∨rk d=20∨rk d=21:=by
 unfold rk at h⊢;split
 ·exact .inl rfl
 ·split
  ·exact .inr (.inl rfl)
  ·split
   ·exact .inr (.inr (.inl rfl))
   ·split
    ·exact .inr (.inr (.inr (.inl rfl)))
    ·split
     ·exact .inr (.inr (.inr (.inr rfl)))
     ·rename_i au ax aA bb bj;rw[aN au,aN ax,aN aA,aN bb,aN bj] at h;exact absurd rfl h
theorem apH:(Tryz.prog.info? 262).map (fun i=>(i.zero,i.size,i.bytes))=some (some (J 0),1,24):=by kernel_rfl
theorem apI(S:Ua)(hs:S.size≤1000000000)(res:Except Nat dN)(hr:af (tb S.data.toList=res))(w:aeo):
  Calls Tryz.prog 156 #[aa S] w (V2 res w):=by
 have bH:=ao hs;have az:=hr.out;obtain⟨o,a1⟩:=adi S.data.toList;have bE:=ao a1;clear hr hs;have aU:af (wU w (w.alloc (ai (#[I 0,I 0,aa ⟨#[]⟩,J 0]) 197))):=V1 w;go_enter Tryz.func156,Tryz.ntmps156;go_upto_region 1 with fail;generalize w.alloc (.cells #[I 0,I 0,aa ⟨#[]⟩,J 0] 197)=W at aU⊢;go_wp2_with fail;with_reducible refine (CI S bH.out o bE _).mono ?_
 rintro e eE ⟨he,hd⟩;have iU:=ao (aU.out.below (o4 hd));clear hd aU;have aU:=iU;clear iU;cases o with
 |none=>
  have bn:af (Except.error 3=res):=(by show _=_;rw[←az,apF a1]);unfold Mm at he;simp only[] at he;subst he;clear az a1 bE;obtain⟨⟨aV,aT,c2,c3⟩,f0,f1,f2,f3⟩:=hB aU.out.a;have aJ:=ao (qu aU.out cB.cH cA);go_wp2_with fail;refine cL (w:=ie eE w.heap.size cB.cH cA) (v:=.tuple #[kE cB.cH cA,I 3]) ?_ rfl ?_
  ·clear aV aT c2 c3 f0 f1 f2 f3;generalize ie eE w.heap.size cB.cH cA=cZ at aJ⊢;obtain⟨⟨aV,aT,c2,c3⟩,_⟩:=hB aJ.out.1;simp[results,F0,go_sem,aV,aT,c2,c3]<;>rfl
  ·rw[←bn.out];exact⟨aJ.out.2,rfl⟩
 |some x=>
  obtain⟨D,R⟩:=x;unfold Mm at he;simp only[] at he;subst he;obtain⟨wB,gL,hE,pW⟩:=adk a1;rw[ch,ch] at hE pW;have hE:D.size≤S.size:=hE;have pW:R.size≤S.size:=pW;simp only[An] at a1;have gf:af (decide (R.data.toList.take (⟨#[44]⟩:Ua).data.toList.length=(⟨#[44]⟩:Ua).data.toList)=decide (R.data.toList.headD 0=44)):=V3 _ (by decide);by_cases sT:R.data.toList.headD 0=44
  ·rw[gx sT] at gf
   have Bq:0<R.size:=by
    rw[←ch];cases aG:R.data.toList with
    |nil=>rw[aG] at sT;exact absurd sT (by decide)
    |cons a b=>simp
   have gY:(1:Int)≤(R.size:Int):=(by omega);obtain⟨n,hn⟩:=aq (rk D.data.toList);have bd:=ao hn
   have aH:af (Dj w eE.heap.size n cA [] (eE.alloc (ai (#[I 3,I n,aa ⟨#[]⟩,J 0]) 197))):=
    ⟨(Array.getElem?_eq_some_iff.1 aU.out.a).1,ba aU.out.a ((Below.refl _ _).alloc (aP _) _),dL eE _,⟨[],World.ownsRow_nil _ _ _ _,.nil⟩,aU.out.b.alloc aU.out.b.size _⟩
   have cK:af (n=0→res=.error 8):=(fun h=>by rw[←az,apD a1 sT (by rw[hn];exact h)]);have fq:af (n≠0→Mw n (vN (R.size+1) (R.extract 1 R.size).data.toList [])=res):=(fun h=>by rw[←az,apC a1 sT (by rw[hn];exact h),hn,ch,lX]);have cM:af (n≠0→n=1∨n=4∨n=7∨n=20∨n=21):=(fun h=>by rw[←hn];exact apG _ (by rw[hn];exact h));have uS:af ((R.extract 1 R.size).size<R.size+1∧R.size≤1000000000):=(by refine⟨?_,by have:=bH.out;omega⟩;rw[←ch,lX,e8,ch];omega);clear az a1 bE wB gL hE pW sT hn Bq;generalize qk:eE.heap.size=vy at aH;go_wp2_with fail;with_reducible refine (xX _ _ _ gf _).mono ?_
   rintro e db ⟨rfl,rfl⟩;go_wp2_with fail;with_reducible refine (ao5 D n bd _).mono ?_
   rintro e bZ ⟨rfl,rfl⟩;go_upto_region 5 with fail;generalize eE.alloc _=fU at aH⊢;clear aU qk;by_cases aF:n=0
   ·have bn:af (Except.error 8=res):=(cK.out aF).symm;have n0:(n==0)=true:=(by simp[aF]);obtain⟨⟨d0,d1,d2,d3⟩,g0,g1,g2,g3⟩:=hB aH.out.dz;have aU:af (wU w fU):=⟨aH.out.r,aH.out.aM⟩;clear aF cK fq cM;obtain⟨⟨aV,aT,c2,c3⟩,f0,f1,f2,f3⟩:=hB aU.out.a;have aJ:=ao (qu aU.out cB.cH cA);go_wp2_with fail;refine cL (w:=ie fU w.heap.size cB.cH cA) (v:=.tuple #[kE cB.cH cA,I 8]) ?_ rfl ?_
    ·clear aV aT c2 c3 f0 f1 f2 f3;generalize ie fU w.heap.size cB.cH cA=cZ at aJ⊢;obtain⟨⟨aV,aT,c2,c3⟩,_⟩:=hB aJ.out.1;simp[results,F0,go_sem,aV,aT,c2,c3]<;>rfl
    ·rw[←bn.out];exact⟨aJ.out.2,rfl⟩
   ·have n0:(n==0)=false:=(by simp[aF]);have aQ:=ao (fq.out aF);have wo:=ao (cM.out aF);obtain⟨⟨d0,d1,d2,d3⟩,g0,g1,g2,g3⟩:=hB aH.out.dz;clear aF cK fq cM;go_upto_region 9 with fail;clear d0 d1 d2 d3 g0 g1 g2 g3
    go_loopw [5,8] (fun l s wr=>∃(f:Nat) (hM:Ua) (ku:Bool) (acc:List (List (Int×Int))) (kD:ada),l=aa hM∧s=U ku∧af (Dj w vy n kD acc wr)∧af (hM.size≤1000000000)∧af (ku=true→hM.size<f)∧af (acc.length≤1100)∧af (Mw n (if ku=true then vN f hM.data.toList acc else .ok acc)=res)) (fun l s _=>Qg s *(Lib.strSize l+1))
    case atStart=>exact⟨R.size+1,R.extract 1 R.size,true,[],cA,rfl,rfl,aH,(by have:=uS.out;show _≤_;omega),fun _=>uS.out.1,cO _,aQ⟩
    case round=>
     obtain⟨f,hM,ku,acc,kD,rfl,rfl,aH,FV,kn,fp,aQ⟩:=hrel;obtain⟨xs,hx,ha⟩:=aH.out.row;obtain⟨p,cap,rfl,vA⟩:=apA hx ha;have cK:=ao hx;have cJ:=ao ha;have Br:=ao vA;have uR:acc.length≤1100:=fp.out;clear hx ha vA;obtain⟨⟨d0,d1,d2,d3⟩,g0,g1,g2,g3⟩:=hB aH.out.dz;have aU:af (wU w wr):=⟨aH.out.r,aH.out.aM⟩;cases ku with
     |false=>
      obtain⟨b,ay⟩:=aq (lQ n acc.length);have apJ:=ao ay;have hr:=aQ.out;rw[aN (by decide)] at hr;unfold Mw at hr;simp only[] at hr;rw[ay] at hr;clear ay aQ;go_wp2_with fail;with_reducible refine (VP n acc.length p cap b wo.out fp.out apJ _).mono ?_
      rintro e br ⟨rfl,dX⟩;have bT:=ao (aH.out.below dX);have apK:=ao (Br.out.keep (.c4 (T:=0) dX) (by decide) (by decide));have pV:=ao (aU.out.below dX);clear dX aU aH d0 d1 d2 d3 g0 g1 g2 g3 cK cJ Br;have aU:=pV;clear pV;obtain⟨⟨d0,d1,d2,d3⟩,g0,g1,g2,g3⟩:=hB bT.out.dz;cases b with
      |false=>
       have bn:af (Except.error 3=res):=hr;clear hr;obtain⟨⟨aV,aT,c2,c3⟩,f0,f1,f2,f3⟩:=hB aU.out.a;have aJ:=ao (qu aU.out cB.cH cA);go_wp2_with fail;refine cL (w:=ie br w.heap.size cB.cH cA) (v:=.tuple #[kE cB.cH cA,I 3]) ?_ rfl ?_
       ·clear aV aT c2 c3 f0 f1 f2 f3;generalize ie br w.heap.size cB.cH cA=cZ at aJ⊢;obtain⟨⟨aV,aT,c2,c3⟩,_⟩:=hB aJ.out.1;simp[results,F0,go_sem,aV,aT,c2,c3]<;>rfl
       ·rw[←bn.out];exact⟨aJ.out.2,rfl⟩
      |true=>
       have bn:af (Except.ok ⟨3,n,[],acc⟩=res):=hr;clear hr;have sS:=ao (IK aU.out.a ⟨3,n,[],acc⟩ (ad p acc.length cap));have aJ:=ao (qu aU.out ⟨3,n,[],acc⟩ (ad p acc.length cap));obtain⟨⟨aV,aT,c2,c3⟩,f0,f1,f2,f3⟩:=hB aU.out.a;go_wp2_with fail;refine cL (w:=ie br w.heap.size ⟨3,n,[],acc⟩ (ad p acc.length cap)) (v:=.tuple #[kE ⟨3,n,[],acc⟩ (ad p acc.length cap),I 0]) ?_ rfl ?_
       ·clear aV aT c2 c3 f0 f1 f2 f3 d0 d1 d2 d3 g0 g1 g2 g3 sS;generalize ie br w.heap.size ⟨3,n,[],acc⟩ (ad p acc.length cap)=cZ at aJ⊢;obtain⟨⟨aV,aT,c2,c3⟩,_⟩:=hB aJ.out.1;simp[results,F0,go_sem,aV,aT,c2,c3]<;>rfl
       ·rw[←bn.out];exact⟨aJ.out.2,_,_,rfl,apK.out.keep sS.out (by decide) (by decide)⟩
     |true=>
      obtain⟨g,rfl⟩:∃g,f=g+1:=⟨f-1,by have:=kn.out rfl;omega⟩;have fy:af (hM.size<g+1):=kn.out rfl;clear kn;have hr:=aQ.out;rw[aW rfl,adA] at hr;by_cases hm:acc.length=1100
      ·rw[aW hm] at hr;have bn:af (Except.error 6=res):=hr;have L0:((acc.length:Int)==1100)=true:=(by simp;omega);clear hr hm aQ;obtain⟨⟨aV,aT,c2,c3⟩,f0,f1,f2,f3⟩:=hB aU.out.a;have aJ:=ao (qu aU.out cB.cH cA);go_wp2_with fail;refine cL (w:=ie wr w.heap.size cB.cH cA) (v:=.tuple #[kE cB.cH cA,I 6]) ?_ rfl ?_
       ·clear aV aT c2 c3 f0 f1 f2 f3;generalize ie wr w.heap.size cB.cH cA=cZ at aJ⊢;obtain⟨⟨aV,aT,c2,c3⟩,_⟩:=hB aJ.out.1;simp[results,F0,go_sem,aV,aT,c2,c3]<;>rfl
       ·rw[←bn.out];exact⟨aJ.out.2,rfl⟩
      ·rw[aN hm] at hr;have L0:((acc.length:Int)==1100)=false:=(by simp;omega);obtain⟨fV,hA2⟩:=kd (eJ 44 hM.data.toList).1;obtain⟨fa,iZ⟩:=kd (eJ 44 hM.data.toList).2.1;obtain⟨bl,ck⟩:=aq ((eJ 44 hM.data.toList).2.2);have bp:af (eJ 44 hM.data.toList=(fV.data.toList,fa.data.toList,bl)):=(by show _=_;rw[hA2,iZ,←ck]);have lG:af (fV.size≤hM.size∧fa.size≤hM.size∧(bl=true→fa.size<hM.size)):=(by have au:=IA 44 hM.data.toList;have ax:=IB 44 hM.data.toList;have aA:=fun h=>adg (c:=44) (l:=hM.data.toList) h;rw[←hA2,ch,ch] at au;rw[←iZ,ch,ch] at ax;rw[←iZ,ch,ch,ck] at aA;exact⟨au,ax,aA⟩);rw[←hA2,←iZ,ck] at hr;obtain⟨⟨l,a,e⟩,hp⟩:=aq (ph.uu fV.data.toList);have bw:=ao hp;rw[hp] at hr;simp only[] at hr;have dC:=ao hr;clear hr hp hA2 iZ ck aQ cK cJ Br aU;go_wp2_with fail;with_reducible refine (Ct hM FV.out 44 fV fa bl bp _).mono ?_
       rintro lu br ⟨rfl,hd⟩;have bT:=ao (aH.out.below (o4 hd));clear hd aH d0 d1 d2 d3 g0 g1 g2 g3;go_wp2_with fail;with_reducible refine (aaQ fV (cd (cd lG.out.1 FV.out) (by decide)) _ l a e bw).mono ?_
       rintro b3 b' ⟨v,rfl,aS,dR⟩;obtain⟨kP,cX,rfl,Mv⟩:=adz aS;have aH:=ao (bT.out.below dR);have wT:=ao (Mv.mono bT.out.aM.size);clear dR aS Mv bT;by_cases he:e=0
       ·subst he;have fz:af (Mw n (if bl=true then vN g fa.data.toList (acc++[l]) else .ok (acc++[l]))=res):=dC.out;clear dC;obtain⟨xs,hx,ha⟩:=aH.out.row;have cK:=ao hx;have cJ:=ao ha;clear hx ha;obtain⟨⟨d0,d1,d2,d3⟩,g0,g1,g2,g3⟩:=hB aH.out.dz;obtain⟨i0,kf,cW,dv,dx⟩:=info_parts apH;have bL:=ao (And.intro kf (And.intro cW (And.intro dv dx)));clear kf cW dv dx;go_wp2_with (at_builtin;refine wz _ rfl _ _ _ rfl w.heap.size 262 i0 (J 0) 1 24 Tryz.underlying195 bL.out.1 bL.out.2.1 bL.out.2.2.1 bL.out.2.2.2 rfl (by omega) (ad p acc.length cap) acc.length (xs) (by rfl) (cK.out.alloc _) (aj ((b').heap.size) 0) 1 1 [ad kP l.length cX] (by rfl) rfl (jx (dL (b') _)) (by simp[Value.oneCell']) (by unfold maxLen;omega) (by omega) (by have:=aH.out.aM.size;simp<;>omega) ?_;intro v' w' gr h9 om;obtain⟨mG,k7,rfl,_,_⟩:=gr.form (by omega);obtain⟨Mk,hT⟩:=aH.out.push (l:=l) (q:=kP) (k:=cX) (v':=ad (some (aj mG 0)) (acc.length+1) k7) cK.out cJ.out ((Below.refl _ _).alloc (aP _) _) h9 gr wT.out;have Bn:=ao Mk;have VM:ak w' vy 3 _:=Cd w' vy 3 _ _ (0,0) hT;have VN:w'.frozen? ⟨vy,3,none⟩=false:=(by simp[World.frozen?,hT]);clear Mk hT;clear gr h9 om);clear d0 d1 d2 d3 g0 g1 g2 g3;go_round
        case rel=>exact⟨g,fa,bl,acc++[l],_,rfl,rfl,Bn,cd lG.out.2.1 FV.out,(fun h=>by have:=fy.out;have:=lG.out.2.2 h;omega),(by show (acc++[l]).length≤_;rw[fH];simp only[Bm];omega),fz⟩
        case measure=>
         show Qg (U bl) *(fa.size+1)<1 *(hM.size+1);have:=lG.out.2.2;cases bl with
         |false=>show 0 *(fa.size+1)<1 *(hM.size+1);omega
         |true=>show 1 *(fa.size+1)<1 *(hM.size+1);have:=this rfl;omega
       ·have Bg:((e:Int) !=0)=true:=(by simp;omega);have bn:af (Except.error e=res):=(by show _=_;rw[←dC.out,aW he];rfl);have aU:af (wU w b'):=⟨aH.out.r,aH.out.aM⟩;clear dC he;obtain⟨⟨aV,aT,c2,c3⟩,f0,f1,f2,f3⟩:=hB aU.out.a;have aJ:=ao (qu aU.out cB.cH cA);go_wp2_with fail;refine cL (w:=ie b' w.heap.size cB.cH cA) (v:=.tuple #[kE cB.cH cA,I (e:Int)]) ?_ rfl ?_
        ·clear aV aT c2 c3 f0 f1 f2 f3;generalize ie b' w.heap.size cB.cH cA=cZ at aJ⊢;obtain⟨⟨aV,aT,c2,c3⟩,_⟩:=hB aJ.out.1;simp[results,F0,go_sem,aV,aT,c2,c3]<;>rfl
        ·rw[←bn.out];exact⟨aJ.out.2,rfl⟩
  ·have bn:af (Except.error 3=res):=(by show _=_;rw[←az,apE a1 sT]);rw[fJ sT] at gf;clear az wB gL hE pW sT a1 bE;go_wp2_with fail;with_reducible refine (xX _ _ _ gf _).mono ?_
   rintro e db ⟨rfl,rfl⟩;obtain⟨⟨aV,aT,c2,c3⟩,f0,f1,f2,f3⟩:=hB aU.out.a;have aJ:=ao (qu aU.out cB.cH cA);go_wp2_with fail;refine cL (w:=ie eE w.heap.size cB.cH cA) (v:=.tuple #[kE cB.cH cA,I 3]) ?_ rfl ?_
   ·clear aV aT c2 c3 f0 f1 f2 f3;generalize ie eE w.heap.size cB.cH cA=cZ at aJ⊢;obtain⟨⟨aV,aT,c2,c3⟩,_⟩:=hB aJ.out.1;simp[results,F0,go_sem,aV,aT,c2,c3]<;>rfl
   ·rw[←bn.out];exact⟨aJ.out.2,rfl⟩
theorem apL(S:Ua)(hs:S.size≤1000000000)(w:aeo):
  Calls Tryz.prog 154 #[aa S] w fun e w'=>e=ab (aa S)∧an w w w':=by
 have adB:S.size≤281474976710656:=by omega
 have ei:=ao adB;clear hs adB;go_enter Tryz.func154,Tryz.ntmps154;go_wp2_with fail;with_reducible refine (Tryz.stringslite_Clone S _ ei.out).mono ?_
 rintro e bt ⟨rfl,ay⟩;have aH:=ao ay;clear ay;go_wp2_with fail;go_ret;exact⟨rfl,aH.out⟩
theorem apM(h:DW s=.error n):n≠0:=by
 unfold DW at h;split at h
 ·cases h;decide
 ·split at h
  ·cases h;decide
  ·split at h;split at h
   ·rename_i aF;cases h;exact aF
   ·cases h
theorem adC:∀{f:Nat} {s:ar} {acc:List (List (Int×Int))} {n:Nat},vN f s acc=.error n→n≠0
 |0,s,acc,n,h=>by cases h
 |f+1,s,acc,n,h=>by
  rw[adA] at h;split at h
  ·cases h;decide
  ·split at h;split at h
   ·rename_i aF;cases h;exact aF
   ·split at h
    ·exact adC h
    ·cases h
theorem apN(h:tb s=.error n):n≠0:=by
 unfold tb at h;split at h
 ·cases h;decide
 ·split at h
  ·cases h;decide
  ·split at h
   ·cases h;decide
   ·split at h
    ·rename_i ax;cases h;exact adC ax
    ·split at h<;>cases h;decide
theorem apO(h:w7 s=.error n):n≠0:=by
 unfold w7 at h;split at h
 ·cases h
 ·split at h
  ·cases h
  ·split at h
   ·exact apM h
   ·exact apN h
theorem apP(S:Ua)(hs:S.size≤1000000000)(res:Except Nat dN)(hr:af (w7 S.data.toList=res))(w:aeo):
  Calls Tryz.prog 113 #[aa S] w (V2 res w):=by
 have bH:=ao hs;have az:=hr.out;unfold w7 at az;clear hr hs;have aU:af (wU w (w.alloc (ai (#[I 0,I 0,aa ⟨#[]⟩,J 0]) 197))):=V1 w;go_enter Tryz.func113,Tryz.ntmps113;go_upto_region 1 with fail;generalize w.alloc (.cells #[I 0,I 0,aa ⟨#[]⟩,J 0] 197)=W at aU⊢;by_cases bI:S.data.toList=[48]
 ·rw[aW bI] at az;have bn:af (Except.ok {cB.cH with k:=1}=res):=az;have aY:(S.toList==[48])=true:=(by rw[hZ];exact gx bI);clear az bI;have sS:=ao (IK aU.out.a ({cB.cH with k:=1}:dN) (J 0));have aJ:=ao (qu aU.out ({cB.cH with k:=1}:dN) (J 0));obtain⟨⟨aV,aT,c2,c3⟩,f0,f1,f2,f3⟩:=hB aU.out.a;go_wp2_with fail;refine cL (w:=ie W w.heap.size ({cB.cH with k:=1}:dN) (J 0)) (v:=.tuple #[kE ({cB.cH with k:=1}:dN) (J 0),I 0]) ?_ rfl ?_
  ·clear aV aT c2 c3 f0 f1 f2 f3 sS;generalize ie W w.heap.size ({cB.cH with k:=1}:dN) (J 0)=cZ at aJ⊢;obtain⟨⟨aV,aT,c2,c3⟩,_⟩:=hB aJ.out.1;simp[results,IL,go_sem,aV,aT,c2,c3]<;>rfl
  ·rw[←bn.out];exact⟨aJ.out.2,_,_,rfl,j5.nil _ _ _⟩
 ·rw[aN bI] at az;have aY:(S.toList==[48])=false:=(by rw[hZ];exact fJ bI);by_cases bJ:S.data.toList.take 2=[48,32]
  ·rw[aW bJ] at az;have bw:af (decide (S.data.toList.take (⟨#[48,32]⟩:Ua).data.toList.length=(⟨#[48,32]⟩:Ua).data.toList)=true):=gx bJ;have ax:(2:Int)≤(S.size:Int):=(by have au:=fS List.length bJ;rw[lz,ch] at au;simp at au;omega);have b2:S.data.toList.drop 2=(S.extract 2 S.size).data.toList:=(lX S 2).symm;have q4:af ((S.extract 2 S.size).size≤1000000000):=(by show _≤_;rw[←ch,lX,e8,ch];have:=bH.out;omega);rw[b2] at az;have bn:af (Except.ok {cB.cH with k:=1,t:=(S.extract 2 S.size).data.toList}=res):=az;clear az bI bJ b2;go_wp2_with fail;with_reducible refine (xX _ _ _ bw _).mono ?_
   rintro e db ⟨rfl,rfl⟩;go_wp2_with fail;with_reducible refine (apL (S.extract 2 S.size) q4.out _).mono ?_
   rintro e br ⟨rfl,dX⟩;have pV:=ao (aU.out.below dX);clear dX aU;have aU:=pV;clear pV;have sS:=ao (IK aU.out.a ({cB.cH with k:=1,t:=(S.extract 2 S.size).data.toList}:dN) (J 0));have aJ:=ao (qu aU.out ({cB.cH with k:=1,t:=(S.extract 2 S.size).data.toList}:dN) (J 0));obtain⟨⟨aV,aT,c2,c3⟩,f0,f1,f2,f3⟩:=hB aU.out.a;go_wp2_with fail;refine cL (w:=ie br w.heap.size ({cB.cH with k:=1,t:=(S.extract 2 S.size).data.toList}:dN) (J 0)) (v:=.tuple #[kE ({cB.cH with k:=1,t:=(S.extract 2 S.size).data.toList}:dN) (J 0),I 0]) ?_ rfl ?_
   ·clear aV aT c2 c3 f0 f1 f2 f3 sS;generalize ie br w.heap.size ({cB.cH with k:=1,t:=(S.extract 2 S.size).data.toList}:dN) (J 0)=cZ at aJ⊢;obtain⟨⟨aV,aT,c2,c3⟩,_⟩:=hB aJ.out.1;simp[results,IL,go_sem,aV,aT,c2,c3]<;>rfl
   ·rw[←bn.out];exact⟨aJ.out.2,_,_,rfl,j5.nil _ _ _⟩
  ·rw[aN bJ] at az;have bw:af (decide (S.data.toList.take (⟨#[48,32]⟩:Ua).data.toList.length=(⟨#[48,32]⟩:Ua).data.toList)=false):=fJ bJ;have gf:af (decide (S.data.toList.take (⟨#[36]⟩:Ua).data.toList.length=(⟨#[36]⟩:Ua).data.toList)=decide (S.data.toList.headD 0=36)):=V3 _ (by decide);by_cases dT:S.data.toList.headD 0=36
   ·rw[aW dT] at az;rw[gx dT] at gf
    have Bq:0<S.size:=by
     rw[←ch];cases aG:S.data.toList with
     |nil=>rw[aG] at dT;exact absurd dT (by decide)
     |cons a b=>simp
    have gY:(1:Int)≤(S.size:Int):=(by omega);have b2:S.data.toList.drop 1=(S.extract 1 S.size).data.toList:=(lX S 1).symm;have q4:af ((S.extract 1 S.size).size≤1000000000):=(by show _≤_;rw[←ch,lX,e8,ch];have:=bH.out;omega);rw[b2] at az;have aQ:=ao az;clear az bI bJ dT b2 Bq;go_wp2_with fail;with_reducible refine (xX _ _ _ bw _).mono ?_
    rintro e db ⟨rfl,rfl⟩;go_wp2_with fail;with_reducible refine (xX _ _ _ gf _).mono ?_
    rintro e db ⟨rfl,rfl⟩;go_wp2_with fail;with_reducible refine (apz (S.extract 1 S.size) q4.out res aQ _).mono ?_
    rintro e br ⟨dX,hx⟩;have pV:=ao (aU.out.below dX);have hh:=ao aU.out.b.size;clear dX aU;have aU:=pV;clear pV;cases res with
    |error n=>
     obtain rfl:e=ab (.tuple #[kE cB.cH cA,I (n:Int)]):=hx;unfold kE ym cB.cH;obtain⟨⟨aV,aT,c2,c3⟩,f0,f1,f2,f3⟩:=hB aU.out.a;have aJ:=ao (qu aU.out cB.cH cA);go_wp2_with fail;refine cL (w:=ie br w.heap.size cB.cH cA) (v:=.tuple #[kE cB.cH cA,I (n:Int)]) ?_ rfl ?_
     ·clear aV aT c2 c3 f0 f1 f2 f3;generalize ie br w.heap.size cB.cH cA=cZ at aJ⊢;obtain⟨⟨aV,aT,c2,c3⟩,_⟩:=hB aJ.out.1;simp[results,IL,go_sem,aV,aT,c2,c3]<;>rfl
     ·exact⟨aJ.out.2,rfl⟩
    |ok b=>
     obtain⟨q,k,rfl,vA⟩:=hx;have Br:=ao (vA.mono hh.out);clear vA;unfold kE ym;have sS:=ao (IK aU.out.a b (ad q b.args.length k));have aJ:=ao (qu aU.out b (ad q b.args.length k));obtain⟨⟨aV,aT,c2,c3⟩,f0,f1,f2,f3⟩:=hB aU.out.a;go_wp2_with fail;refine cL (w:=ie br w.heap.size b (ad q b.args.length k)) (v:=.tuple #[kE b (ad q b.args.length k),I 0]) ?_ rfl ?_
     ·clear aV aT c2 c3 f0 f1 f2 f3 sS;generalize ie br w.heap.size b (ad q b.args.length k)=cZ at aJ⊢;obtain⟨⟨aV,aT,c2,c3⟩,_⟩:=hB aJ.out.1;simp[results,IL,go_sem,aV,aT,c2,c3]<;>rfl
     ·exact⟨aJ.out.2,_,_,rfl,Br.out.keep sS.out (by decide) (by decide)⟩
   ·rw[aN dT] at az;rw[fJ dT] at gf;have aQ:=ao az;clear az bI bJ dT;go_wp2_with fail;with_reducible refine (xX _ _ _ bw _).mono ?_
    rintro e db ⟨rfl,rfl⟩;go_wp2_with fail;with_reducible refine (xX _ _ _ gf _).mono ?_
    rintro e db ⟨rfl,rfl⟩;go_wp2_with fail;with_reducible refine (apI S bH.out res aQ _).mono ?_
    rintro e br ⟨dX,hx⟩;have pV:=ao (aU.out.below dX);have hh:=ao aU.out.b.size;clear dX aU;have aU:=pV;clear pV;cases res with
    |error n=>
     obtain rfl:e=ab (.tuple #[kE cB.cH cA,I (n:Int)]):=hx;unfold kE ym cB.cH;obtain⟨⟨aV,aT,c2,c3⟩,f0,f1,f2,f3⟩:=hB aU.out.a;have aJ:=ao (qu aU.out cB.cH cA);go_wp2_with fail;refine cL (w:=ie br w.heap.size cB.cH cA) (v:=.tuple #[kE cB.cH cA,I (n:Int)]) ?_ rfl ?_
     ·clear aV aT c2 c3 f0 f1 f2 f3;generalize ie br w.heap.size cB.cH cA=cZ at aJ⊢;obtain⟨⟨aV,aT,c2,c3⟩,_⟩:=hB aJ.out.1;simp[results,IL,go_sem,aV,aT,c2,c3]<;>rfl
     ·exact⟨aJ.out.2,rfl⟩
    |ok b=>
     obtain⟨q,k,rfl,vA⟩:=hx;have Br:=ao (vA.mono hh.out);clear vA;unfold kE ym;have sS:=ao (IK aU.out.a b (ad q b.args.length k));have aJ:=ao (qu aU.out b (ad q b.args.length k));obtain⟨⟨aV,aT,c2,c3⟩,f0,f1,f2,f3⟩:=hB aU.out.a;go_wp2_with fail;refine cL (w:=ie br w.heap.size b (ad q b.args.length k)) (v:=.tuple #[kE b (ad q b.args.length k),I 0]) ?_ rfl ?_
     ·clear aV aT c2 c3 f0 f1 f2 f3 sS;generalize ie br w.heap.size b (ad q b.args.length k)=cZ at aJ⊢;obtain⟨⟨aV,aT,c2,c3⟩,_⟩:=hB aJ.out.1;simp[results,IL,go_sem,aV,aT,c2,c3]<;>rfl
     ·exact⟨aJ.out.2,_,_,rfl,Br.out.keep sS.out (by decide) (by decide)⟩
def Mx(w:aeo)(p:Ja)(l:List (List UInt8)):Prop:=0<l.length→∃b o,p=some ⟨b,o,none⟩∧b<w.heap.size∧∀i (hi:i<l.length),ak w b (o+i) (aa ⟨l[i].toArray⟩)
theorem Mx.below{w':aeo}{p:Ja}{l:List (List UInt8)}(h:Mx w p l)(ay:an w w w'):Mx w' p l:=by intro az;obtain⟨b,o,hp,bm,aB⟩:=h az;exact⟨b,o,hp,hN bm ay.size,fun i hi=>(ay.cell (p:=⟨b,o+i,none⟩) bm).trans (aB i hi)⟩
inductive pd(B:Nat)(w:aeo):List dN→aev→Prop
 |nil:pd B w [] []
 |cons {x:dN} {l:List dN} {q:Ja} {k:Nat} {xs:aev}:j5 B w q x.args→pd B w l xs→pd B w (x::l) ((ym x (ad q x.args.length k)).toList++xs)
theorem pd.keep{T:aai}{B:Nat}{w w':aeo}{l:List dN}{xs:aev}(h:pd B w l xs)(aw:kx T w w')(au:313≠T)(ax:262≠T):pd B w' l xs:=by
 induction h with
 |nil=>exact .nil
 |cons a _ cU=>exact .cons (a.keep aw au ax) cU
theorem pd.append{l m:List dN}{xs ys:aev}(h:pd B w l xs)(g:pd B w m ys):pd B w (l++m) (xs++ys):=by
 induction h with
 |nil=>exact g
 |cons a _ cU=>rw[w3,List.append_assoc];exact .cons a cU
theorem pd.snoc{l:List dN}{xs:aev}(h:pd B w l xs)(x:dN)(k:Nat)(hx:j5 B w q x.args):pd B w (l++[x]) (xs++(ym x (ad q x.args.length k)).toList):=by
 have ax:=h.append (.cons (k:=k) hx .nil)
 rwa [List.append_nil] at ax
theorem pd.get{l:List dN}{xs:aev}(h:pd B w l xs):∀(i:Nat) (hi:i<l.length),∃q c,xs[i *4]?=some (I l[i].k)∧xs[i *4+1]?=some (I l[i].n)∧xs[i *4+2]?=some (aa ⟨l[i].t.toArray⟩)∧xs[i *4+3]?=some (.slice q l[i].args.length c)∧j5 B w q l[i].args:=by
 induction h with
 |nil=>exact fun i hi=>absurd hi (lS _)
 |cons a _ cU=>
  intro i hi;cases i with
  |zero=>exact⟨_,_,rfl,rfl,rfl,rfl,a⟩
  |succ i=>
   obtain⟨q,c,g0,g1,g2,g3,g4⟩:=cU i (A0 hi);refine⟨q,c,?_,?_,?_,?_,g4⟩
   ·rw[show (i+1) *4=i *4+1+1+1+1 by omega];exact g0
   ·rw[show (i+1) *4+1=(i *4+1)+1+1+1+1 by omega];exact g1
   ·rw[show (i+1) *4+2=(i *4+2)+1+1+1+1 by omega];exact g2
   ·rw[show (i+1) *4+3=(i *4+3)+1+1+1+1 by omega];exact g3
theorem apQ{l:List dN}{xs:aev}(h:w.ownsRow B 197 4 v l.length xs)(ha:pd B w l xs):∃p c,v=ad p l.length c∧fG B w p l:=by
 rcases h.2 with ⟨au,ax⟩|⟨g,c,cur,au,ax,aA,bb,bj,b8,cY⟩
 ·exact⟨none,0,by rw[au,ax],fun az=>absurd az (by omega)⟩
 ·refine⟨_,c,au,fun az=>⟨g,0,cur,rfl,ax,aA,fun i hi=>?_⟩⟩;obtain⟨q,k,g0,g1,g2,g3,g4⟩:=ha.get i hi;have key:∀j,j<l.length *4→cur[j]?=xs[j]?:=(fun j b6=>by rw[←cY,FU b6,yO]);refine⟨q,k,?_,?_,?_,?_,g4⟩
  ·rw[jt,key _ (by omega)];exact g0
  ·rw[jt,key _ (by omega)];exact g1
  ·rw[jt,key _ (by omega)];exact g2
  ·rw[jt,key _ (by omega)];exact g3
def apR(bs:List dN)(i e:Nat)(w:aeo)(b3:Ending)(w':aeo):Prop:=Below w.heap.size w w'∧∃q k,b3=ab (.tuple #[ad q bs.length k,I (i:Int),I (e:Int)])∧fG w.heap.size w' q bs
def V5:Except (Nat×Nat) (List dN)→List dN×Nat×Nat
 |.error (i,e)=>([],i,e)
 |.ok b=>(b,0,0)
theorem apS(l:List (List UInt8))(h:¬500<l.length):yH l=V5 (w8 l 0 []):=by unfold yH;rw[aN h];cases w8 l 0 []<;>rfl
def adD(k:Nat)(r:List (List UInt8))(acc:List dN):Except Nat dN→Except (Nat×Nat) (List dN)
 |.error e=>.error (k,e)
 |.ok b=>w8 r (k+1) (acc++[b])
theorem apT{l:List (List UInt8)}(h:k<l.length)(acc:List dN):w8 (l.drop k) k acc=adD k (l.drop (k+1)) acc (w7 l[k]):=by rw[rZ h];show (match w7 l[k] with|.error e=>_|.ok b=>_)=_;cases w7 l[k]<;>rfl
theorem apU:(Tryz.prog.info? 197).map (fun i=>(i.zero,i.size,i.bytes))=some (some (.agg #[I 0,I 0,aa ⟨#[]⟩,J 0]),4,56):=by kernel_rfl
theorem apV{W X bk:aeo}{v':ada}{acc:List dN}{xs:aev}{x:dN}(hx:W.ownsRow w.heap.size 197 4 v acc.length xs)(ha:pd w.heap.size W acc xs)(vA:j5 w.heap.size W q x.args)(bz:an w w W)(b2:an W W X)(aI:X.grownBy bk v.ownBlock)(a1:bk.ownsRow w.heap.size 197 4 v' (acc.length+1) (xs++(ym x (ad q x.args.length k)).toList)):
  (∃ys,bk.ownsRow w.heap.size 197 4 v' (acc++[x]).length ys∧pd w.heap.size bk (acc++[x]) ys)∧an w w bk:=by
 have qg:=fY hx b2;have hK:kx 197 W bk:=(kx.c4 b2).trans (.grown qg aI);refine⟨⟨_,?_,(ha.keep hK (by decide) (by decide)).snoc x k (vA.keep hK (by decide) (by decide))⟩,?_⟩
 ·rw[show (acc++[x]).length=acc.length+1 by simp];exact a1
 ·have ck:=bz.trans (b2.mono bz.size);exact ck.grown aI ck.size (fun k aw=>(qg.lt _ aw).1)
theorem adE(p:Ja)(cap:Nat)(l:List (List UInt8))(w:aeo)(fC:af (Mx w p l))(hn:l.length≤1000000)(hs:af (∀s∈l,s.length≤1000000000))(bs:List dN)(i e:Nat)(h:af (yH l=(bs,i,e))):
  Calls Tryz.prog 75 #[ad p l.length cap] w (apR bs i e w):=by
 by_cases bj:500<l.length
 ·have az:=h.out;unfold yH at az;rw[aW bj] at az;simp only[fg] at az;obtain⟨rfl,rfl,rfl⟩:=az;have apW:(500:Int)<(l.length:Int):=(by omega);clear h;go_enter Tryz.func75,Tryz.ntmps75;go_wp2_with fail;go_ret3;exact⟨Below.refl _ _,none,0,rfl,fG.nil _ _ _⟩
 ·have apW:¬(500:Int)<(l.length:Int):=(by omega);have az:=h.out;rw[apS l bj] at az;have ei:=ao az;clear az h;go_enter Tryz.func75,Tryz.ntmps75;go_wp2_with fail
  go_loopw [5,15] (fun u x wr=>∃(k:Nat) (acc:List dN),k≤l.length∧af (acc.length=k)∧x=I (k:Int)∧af (∃xs,wr.ownsRow w.heap.size 197 4 u acc.length xs∧pd w.heap.size wr acc xs)∧af (an w w wr)∧af (V5 (w8 (l.drop k) k acc)=(bs,i,e))) (fun _ x _=>l.length -(intOf x).toNat)
  case atStart=>exact⟨0,[],cO _,rfl,rfl,⟨[],World.ownsRow_nil _ _ _ _,.nil⟩,Below.refl _ _,ei⟩
  case round=>
   obtain⟨k,acc,aw,adF,rfl,cK,aH,aQ⟩:=hrel;obtain⟨xs,hx,ha⟩:=cK.out;obtain⟨eH,cv,rfl,Dk⟩:=apQ hx ha;have Qo:=ao hx;have cJ:=ao ha;have IM:=ao Dk;clear hx ha Dk cK;by_cases bm:k<l.length
   ·have hr:=aQ.out;rw[apT bm] at hr;obtain⟨S,hS⟩:=kd l[k];rw[←hS] at hr;obtain⟨IN,GS⟩:=aq (w7 S.data.toList);have adG:=ao GS;rw[GS] at hr;have dC:=ao hr;obtain⟨b,o,rfl,sU,aB⟩:=fC.out (by omega);have BT:ak wr b (o+k) (aa S):=(by rw[aH.out.cell (p:=⟨b,o+k,none⟩) sU,aB k bm,←hS]);have My:af (S.size≤1000000000):=(by show _≤_;rw[←ch,hS];exact hs.out _ (k3 bm));have fD:(k:Int)<(l.length:Int):=(by omega);clear hr GS hS aB aQ;go_wp2_with fail;with_reducible refine (apP S My.out IN adG _).mono ?_
    rintro b3 br ⟨dX,sP⟩;have bT:=ao (aH.out.trans (dX.mono aH.out.size));have adH:=ao (fY Qo.out dX);have nX:=ao (cJ.out.keep (T:=0) (.c4 dX) (by decide) (by decide));clear dX Qo cJ IM;cases IN with
    |error n=>
     obtain rfl:b3=ab (.tuple #[kE cB.cH cA,I (n:Int)]):=sP;have jf:n≠0:=apO adG.out;have TY:((n:Int) !=0)=true:=(by simp;omega);have aG:=dC.out;unfold adD V5 at aG;simp only[fg] at aG;obtain⟨rfl,rfl,rfl⟩:=aG;unfold kE ym cB.cH;clear jf dC;go_wp2_with fail;go_ret3;exact⟨bT.out.alloc bT.out.size _,none,0,rfl,fG.nil _ _ _⟩
    |ok x=>
     obtain⟨q,c,rfl,vA⟩:=sP;have Br:=ao (vA.mono aH.out.size);unfold kE ym;clear vA;have El:acc.length≤1000000:=(by have:=adF.out;omega);obtain⟨i0,kf,cW,dv,dx⟩:=info_parts apU;have bL:=ao (And.intro kf (And.intro cW (And.intro dv dx)));clear kf cW dv dx;go_wp2_with (at_builtin;refine wz _ rfl _ _ _ rfl w.heap.size 197 i0 (.agg #[I 0,I 0,aa ⟨#[]⟩,J 0]) 4 56 Tryz.underlying90 bL.out.1 bL.out.2.1 bL.out.2.2.1 bL.out.2.2.2 rfl (by omega) (ad eH acc.length cv) acc.length (xs) (by rfl) ((adH.out.alloc _).alloc _) (aj (br.heap.size+1) 0) 1 1 [I x.k,I x.n,aa ⟨x.t.toArray⟩,ad q x.args.length c] (by rfl) rfl (jx (Qe br _ _)) (by simp[Value.oneCell']) (by unfold maxLen;omega) (by omega) (by have:=bT.out.size;simp<;>omega) ?_;intro v' w' gr h9 om;obtain⟨mG,k7,rfl,_,_⟩:=gr.form (by omega);have bd:af ((∃ys,w'.ownsRow w.heap.size 197 4 (ag mG 0 (acc.length+1) k7) (acc++[x]).length ys∧pd w.heap.size w' (acc++[x]) ys)∧an w w w'):=apV adH.out nX.out (k:=c) Br.out bT.out (((Below.refl _ _).alloc (aP _) _).alloc (by simp) _) h9 gr;clear gr h9 om);go_round
     case rel=>exact⟨k+1,acc++[x],by omega,(by have:=adF.out;show (acc++[x]).length=k+1;rw[fH];simp only[Bm];omega),by go_num,bd.out.1,bd.out.2,dC⟩
     case measure=>simp[intOf];omega
   ·have adI:k=l.length:=(by omega);have fD:¬(k:Int)<(l.length:Int):=(by omega);have aG:=aQ.out;rw[adI,Nh] at aG;have J5:(acc,0,0)=(bs,i,e):=aG;simp only[fg] at J5;obtain⟨rfl,rfl,rfl⟩:=J5;clear aG aQ;go_wp2_with fail;go_ret3;exact⟨aH.out,_,_,rfl,IM.out⟩
end gK
