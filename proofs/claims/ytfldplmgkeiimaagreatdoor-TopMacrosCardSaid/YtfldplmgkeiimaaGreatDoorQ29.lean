/- Lemmas. -/
import Derived.Test.YtfldplmgkeiimaaGreatDoorQ28
set_option linter.all false
set_option maxRecDepth 100000
set_option maxHeartbeats 12800000
namespace Go.Proofs.YtfldplmgkeiimaaGreatDoor
abbrev FP:=@Proofs.Tryz.results181
abbrev IF:=@Proofs.Tryz.results137
namespace gT
open Go.RowKit ny j6 px Mem p1 bS
inductive tW(B:Nat)(w:aeo):List (List (Int×Int))→aev→Prop
 |nil:tW B w [] []
 |cons {x:List (Int×Int)} {l:List (List (Int×Int))} {q:Ja} {k:Nat} {xs:aev}:ow B w q x→tW B w l xs→tW B w (x::l) (ad q x.length k::xs)
theorem tW.keep{T:aai}{B:Nat}{w w':aeo}{l:List (List (Int×Int))}{xs:aev}(h:tW B w l xs)(ax:kD T w w')(eS:413≠T):tW B w' l xs:=by
 induction h with
 |nil=>exact .nil
 |cons a _ cT=>exact .cons (a.keep ax eS) cT
variable{B n k:Nat}{w:aeo}{q:Ja}
theorem tW.snoc{l:List (List (Int×Int))}{xs:aev}(h:tW B w l xs){x:List (Int×Int)}(k:Nat)(hx:ow B w q x):tW B w (l++[x]) (xs++[ad q x.length k]):=by
 induction h with
 |nil=>exact .cons hx .nil
 |cons a _ cT=>exact .cons a cT
theorem tW.get{l:List (List (Int×Int))}{xs:aev}(h:tW B w l xs):∀(i:Nat) (hi:i<l.length),∃q c,xs[i]?=some (.slice q l[i].length c)∧ow B w q l[i]:=by
 induction h with
 |nil=>exact fun i hi=>absurd hi (nB _)
 |cons a _ cT=>
  intro i hi;cases i with
  |zero=>exact⟨_,_,rfl,a⟩
  |succ i=>exact cT i (A9 hi)
variable{v:ada}
theorem aqF{l:List (List (Int×Int))}{xs:aev}(h:w.ownsRow B 345 1 v l.length xs)(ha:tW B w l xs):∃p c,v=ad p l.length c∧lk B w p l:=by
 rcases h.2 with ⟨av,az⟩|⟨g,c,cur,av,az,aF,bk,b9,cW,eN⟩
 ·exact⟨none,0,by rw[av,az],fun aA=>absurd aA (by omega)⟩
 ·refine⟨_,c,av,fun aA=>⟨g,0,cur,rfl,az,aF,fun i hi=>?_⟩⟩;obtain⟨q,k,g1,g2⟩:=ha.get i hi;refine⟨q,k,?_,g2⟩;rw[kr,←xP,←g1,←eN,Iy (by omega)]
structure Dh(w:aeo)(b:Nat)(n:Int)(kE:ada)(acc:List (List (Int×Int)))(W:aeo):Prop where
 gt:w.heap.size<b
 r:W.heap[w.heap.size]?=some Qb
 nA:an W b (#[I 3,I n,aa ⟨#[]⟩,kE]) 259
 row:∃xs,W.ownsRow w.heap.size 345 1 kE acc.length xs∧tW w.heap.size W acc xs
 aZ:ao w w W
theorem Dh.below{W ng:aeo}{b:Nat}{n:Int}{kE:ada}{acc:List (List (Int×Int))}(h:Dh w b n kE acc W)(ay:ao W W ng):Dh w b n kE acc ng:=by obtain⟨xs,av,az⟩:=h.row;exact⟨h.gt,aU h.r ay,aU h.nA ay,⟨xs,e9 av ay,az.keep (T:=0) (.dI ay) (by decide)⟩,h.aZ.trans (ay.mono h.aZ.size)⟩
theorem Dh.push{W X bV:aeo}{b:Nat}{n:Int}{kE v':ada}{acc:List (List (Int×Int))}{xs:aev}{l:List (Int×Int)}(h:Dh w b n kE acc W)(hx:W.ownsRow w.heap.size 345 1 kE acc.length xs)(ha:tW w.heap.size W acc xs)(dd:ao W W X)(ba:X.grownBy bV kE.ownBlock)(bl:bV.ownsRow w.heap.size 345 1 v' (acc.length+1) (xs++[ad q l.length k]))(aA:ow w.heap.size W q l):
  Dh w b n v' (acc++[l]) (bV.setCell (aj b 3) v')∧an bV b (#[I 3,I n,aa ⟨#[]⟩,kE]) 259:=by
 have av:=h.below dd;have l0:=e9 hx dd;have lt:∀{k:Nat} {o:Obj},X.heap[k]?=some o→k<X.heap.size:=fun ax=>(Array.getElem?_eq_some_iff.1 ax).1;have hr:bV.heap[w.heap.size]?=some Qb:=(ba.block _ (lt av.r) (gJ (oZ l0 av.r (by decide)))).trans av.r;have hp:an bV b (#[I 3,I n,aa ⟨#[]⟩,kE]) 259:=(ba.block _ (lt av.nA) (gJ (oZ l0 av.nA (by decide)))).trans av.nA;have hK:kD 345 W bV:=(kD.dI dd).trans (.grown l0 ba);have aqG:kD 259 bV (bV.setCell (aj b 3) v'):=.set hp v';refine⟨⟨h.gt,?_,?_,⟨_,?_,((ha.keep hK (by decide)).snoc k (aA.keep hK (by decide))).keep aqG (by decide)⟩,?_⟩,hp⟩
 ·exact (uo _ _ _ _ (by show w.heap.size≠b;have:=h.gt;omega)).trans hr
 ·rw[kd hp];rfl
 ·rw[show (acc++[l]).length=acc.length+1 by simp];exact tD bl hp (by decide) _
 ·exact ((av.aZ.grown ba av.aZ.size (fun k ax=>(l0.lt _ ax).1))).setCell (tn h.gt) _
def Ma(n:Int):Except Nat (List (List (Int×Int)))→Except Nat eg
 |.error e=>.error e
 |.ok l=>if lV n l.length=true then .ok ⟨3,n,[],l⟩ else .error 3
theorem adN(f:Nat)(s:au)(acc:List (List (Int×Int))):pY (f+1) s acc=if acc.length=1100 then .error 6 else match vF.vH (eu 44 s).1 with
 |(l,_,e)=>if e≠0 then .error e else if (eu 44 s).2.2=true then pY f (eu 44 s).2.1 (acc++[l]) else .ok (acc++[l]):=rfl
variable{s d r:au}
theorem aqH(h:ug s=some (d,r))(sE:r.headD 0=44)(hp:qu d≠0):rL s=Ma (qu d) (pY (r.length+1) (r.drop 1) []):=by unfold rL;rw[h];simp only[];rw[aR (fun aJ=>aJ sE),aR hp];cases pY (r.length+1) (r.drop 1) []<;>rfl
theorem aqI(h:ug s=some (d,r))(sE:r.headD 0=44)(hp:qu d=0):rL s=.error 8:=by unfold rL;rw[h];simp only[];rw[aR (fun aJ=>aJ sE),a8 hp]
theorem aqJ(h:ug s=some (d,r))(sE:r.headD 0≠44):rL s=.error 3:=by unfold rL;rw[h];simp only[];rw[a8 sE]
theorem aqK(h:ug s=none):rL s=.error 3:=by unfold rL;rw[h]
theorem aqL(d:au)(h:qu d≠0):qu d=1∨qu d=4∨qu d=7∨qu d=20∨qu d=21:=by
 unfold qu at h⊢;split
 ·exact .inl rfl
 ·split
  ·exact .inr (.inl rfl)
  ·split
   ·exact .inr (.inr (.inl rfl))
   ·split
    ·exact .inr (.inr (.inr (.inl rfl)))
    ·split
     ·exact .inr (.inr (.inr (.inr rfl)))
     ·rename_i av az aF bk b9;rw[aR av,aR az,aR aF,aR bk,aR b9] at h;exact absurd rfl h
theorem aqM:(Tryz.prog.info? 345).map (fun i=>(i.zero,i.size,i.bytes))=some (some (J 0),1,24):=by kernel_rfl
theorem aqN(S:Ua)(hs:S.size≤1000000000)(res:Except Nat eg)(hr:af (rL S.data.toList=res))(w:aeo):
  Calls Tryz.prog 181 #[aa S] w (Vq res w):=by
 have b7:=aq hs;have aA:=hr.out;obtain⟨o,bl⟩:=adq S.data.toList;have b5:=aq bl;clear hr hs;have aX:af (wV w (w.alloc (ai (#[I 0,I 0,aa ⟨#[]⟩,J 0]) 259))):=Vp w;go_enter Tryz.func181,Tryz.ntmps181;go_upto_region 1 with fail;generalize w.alloc (.cells #[I 0,I 0,aa ⟨#[]⟩,J 0] 259)=W at aX⊢;go_wp2_with fail;with_reducible refine (Lb S b7.out o b5 _).mono ?_
 rintro e cm ⟨he,hd⟩;have eX:=aq (aX.out.below (ma hd));clear hd aX;have aX:=eX;clear eX;cases o with
 |none=>
  have bd:af (Except.error 3=res):=(by show _=_;rw[←aA,aqK bl]);unfold L4 at he;simp only[] at he;subst he;clear aA bl b5;obtain⟨⟨aN,aL,aI,c3⟩,f0,f1,f2,f3⟩:=hj aX.out.a;have aP:=aq (qn aX.out bS.cy b3);go_wp2_with fail;refine dC (w:=h0 cm w.heap.size bS.cy b3) (v:=.tuple #[kF bS.cy b3,I 3]) ?_ rfl ?_
  ·clear aN aL aI c3 f0 f1 f2 f3;generalize h0 cm w.heap.size bS.cy b3=et at aP⊢;obtain⟨⟨aN,aL,aI,c3⟩,_⟩:=hj aP.out.1;simp[results,FP,go_sem,aN,aL,aI,c3]<;>rfl
  ·rw[←bd.out];exact⟨aP.out.2,rfl⟩
 |some x=>
  obtain⟨D,R⟩:=x;unfold L4 at he;simp only[] at he;subst he;obtain⟨uv,hQ,gL,qj⟩:=ads bl;rw[cG,cG] at gL qj;have gL:D.size≤S.size:=gL;have qj:R.size≤S.size:=qj;simp only[Cp] at bl;have hB:af (decide (R.data.toList.take (⟨#[44]⟩:Ua).data.toList.length=(⟨#[44]⟩:Ua).data.toList)=decide (R.data.toList.headD 0=44)):=Vr _ (by decide);by_cases sE:R.data.toList.headD 0=44
  ·rw[e' sE] at hB
   have Bt:0<R.size:=by
    rw[←cG];cases aH:R.data.toList with
    |nil=>rw[aH] at sE;exact absurd sE (by decide)
    |cons a b=>simp
   have jd:(1:Int)≤(R.size:Int):=(by omega);obtain⟨n,hn⟩:=ar (qu D.data.toList);have bf:=aq hn
   have aO:af (Dh w cm.heap.size n b3 [] (cm.alloc (ai (#[I 3,I n,aa ⟨#[]⟩,J 0]) 259))):=
    ⟨(Array.getElem?_eq_some_iff.1 aX.out.a).1,aU aX.out.a ((Below.refl _ _).alloc (bx _) _),ga cm _,⟨[],FG _ _ _ _,.nil⟩,aX.out.b.alloc aX.out.b.size _⟩
   have c2:af (n=0→res=.error 8):=(fun h=>by rw[←aA,aqI bl sE (by rw[hn];exact h)]);have cC:af (n≠0→Ma n (pY (R.size+1) (R.extract 1 R.size).data.toList [])=res):=(fun h=>by rw[←aA,aqH bl sE (by rw[hn];exact h),hn,cG,mS]);have b0:af (n≠0→n=1∨n=4∨n=7∨n=20∨n=21):=(fun h=>by rw[←hn];exact aqL _ (by rw[hn];exact h));have qI:af ((R.extract 1 R.size).size<R.size+1∧R.size≤1000000000):=(by refine⟨?_,by have:=b7.out;omega⟩;rw[←cG,mS,gI,cG];omega);clear aA bl b5 uv hQ gL qj sE hn Bt;generalize pJ:cm.heap.size=dR at aO;go_wp2_with fail;with_reducible refine (x7 _ _ _ hB _).mono ?_
   rintro e dp ⟨rfl,rfl⟩;go_wp2_with fail;with_reducible refine (ap7 D n bf _).mono ?_
   rintro e cA ⟨rfl,rfl⟩;go_upto_region 5 with fail;generalize cm.alloc _=dG at aO⊢;clear aX pJ;by_cases aT:n=0
   ·have bd:af (Except.error 8=res):=(c2.out aT).symm;have n0:(n==0)=true:=(by simp[aT]);obtain⟨⟨d0,d1,d2,d3⟩,g0,g1,g2,g3⟩:=hj aO.out.nA;have aX:af (wV w dG):=⟨aO.out.r,aO.out.aZ⟩;clear aT c2 cC b0;obtain⟨⟨aN,aL,aI,c3⟩,f0,f1,f2,f3⟩:=hj aX.out.a;have aP:=aq (qn aX.out bS.cy b3);go_wp2_with fail;refine dC (w:=h0 dG w.heap.size bS.cy b3) (v:=.tuple #[kF bS.cy b3,I 8]) ?_ rfl ?_
    ·clear aN aL aI c3 f0 f1 f2 f3;generalize h0 dG w.heap.size bS.cy b3=et at aP⊢;obtain⟨⟨aN,aL,aI,c3⟩,_⟩:=hj aP.out.1;simp[results,FP,go_sem,aN,aL,aI,c3]<;>rfl
    ·rw[←bd.out];exact⟨aP.out.2,rfl⟩
   ·have n0:(n==0)=false:=(by simp[aT]);have bq:=aq (cC.out aT);have EL:=aq (b0.out aT);obtain⟨⟨d0,d1,d2,d3⟩,g0,g1,g2,g3⟩:=hj aO.out.nA;clear aT c2 cC b0;go_upto_region 9 with fail;clear d0 d1 d2 d3 g0 g1 g2 g3
    go_loopw [5,8] (fun l s wr=>∃(f:Nat) (hD:Ua) (yv:Bool) (acc:List (List (Int×Int))) (kE:ada),l=aa hD∧s=U yv∧af (Dh w dR n kE acc wr)∧af (hD.size≤1000000000)∧af (yv=true→hD.size<f)∧af (acc.length≤1100)∧af (Ma n (if yv=true then pY f hD.data.toList acc else .ok acc)=res)) (fun l s _=>P1 s *(Lib.strSize l+1))
    case atStart=>exact⟨R.size+1,R.extract 1 R.size,true,[],b3,rfl,rfl,aO,(by have:=qI.out;show _≤_;omega),fun _=>qI.out.1,eE _,bq⟩
    case round=>
     obtain⟨f,hD,yv,acc,kE,rfl,rfl,aO,FL,mr,eV,bq⟩:=hrel;obtain⟨xs,hx,ha⟩:=aO.out.row;obtain⟨p,cap,rfl,vm⟩:=aqF hx ha;have c2:=aq hx;have cc:=aq ha;have Bu:=aq vm;have KO:acc.length≤1100:=eV.out;clear hx ha vm;obtain⟨⟨d0,d1,d2,d3⟩,g0,g1,g2,g3⟩:=hj aO.out.nA;have aX:af (wV w wr):=⟨aO.out.r,aO.out.aZ⟩;cases yv with
     |false=>
      obtain⟨b,ay⟩:=ar (lV n acc.length);have IG:=aq ay;have hr:=bq.out;rw[aR (by decide)] at hr;unfold Ma at hr;simp only[] at hr;rw[ay] at hr;clear ay bq;go_wp2_with fail;with_reducible refine (Vj n acc.length p cap b EL.out eV.out IG _).mono ?_
      rintro e bt ⟨rfl,dS⟩;have dX:=aq (aO.out.below dS);have aqO:=aq (Bu.out.keep (.dI (T:=0) dS) (by decide) (by decide));have tQ:=aq (aX.out.below dS);clear dS aX aO d0 d1 d2 d3 g0 g1 g2 g3 c2 cc Bu;have aX:=tQ;clear tQ;obtain⟨⟨d0,d1,d2,d3⟩,g0,g1,g2,g3⟩:=hj dX.out.nA;cases b with
      |false=>
       have bd:af (Except.error 3=res):=hr;clear hr;obtain⟨⟨aN,aL,aI,c3⟩,f0,f1,f2,f3⟩:=hj aX.out.a;have aP:=aq (qn aX.out bS.cy b3);go_wp2_with fail;refine dC (w:=h0 bt w.heap.size bS.cy b3) (v:=.tuple #[kF bS.cy b3,I 3]) ?_ rfl ?_
       ·clear aN aL aI c3 f0 f1 f2 f3;generalize h0 bt w.heap.size bS.cy b3=et at aP⊢;obtain⟨⟨aN,aL,aI,c3⟩,_⟩:=hj aP.out.1;simp[results,FP,go_sem,aN,aL,aI,c3]<;>rfl
       ·rw[←bd.out];exact⟨aP.out.2,rfl⟩
      |true=>
       have bd:af (Except.ok ⟨3,n,[],acc⟩=res):=hr;clear hr;have pL:=aq (IE aX.out.a ⟨3,n,[],acc⟩ (ad p acc.length cap));have aP:=aq (qn aX.out ⟨3,n,[],acc⟩ (ad p acc.length cap));obtain⟨⟨aN,aL,aI,c3⟩,f0,f1,f2,f3⟩:=hj aX.out.a;go_wp2_with fail;refine dC (w:=h0 bt w.heap.size ⟨3,n,[],acc⟩ (ad p acc.length cap)) (v:=.tuple #[kF ⟨3,n,[],acc⟩ (ad p acc.length cap),I 0]) ?_ rfl ?_
       ·clear aN aL aI c3 f0 f1 f2 f3 d0 d1 d2 d3 g0 g1 g2 g3 pL;generalize h0 bt w.heap.size ⟨3,n,[],acc⟩ (ad p acc.length cap)=et at aP⊢;obtain⟨⟨aN,aL,aI,c3⟩,_⟩:=hj aP.out.1;simp[results,FP,go_sem,aN,aL,aI,c3]<;>rfl
       ·rw[←bd.out];exact⟨aP.out.2,_,_,rfl,aqO.out.keep pL.out (by decide) (by decide)⟩
     |true=>
      obtain⟨g,rfl⟩:∃g,f=g+1:=⟨f-1,by have:=mr.out rfl;omega⟩;have e0:af (hD.size<g+1):=mr.out rfl;clear mr;have hr:=bq.out;rw[a8 rfl,adN] at hr;by_cases hm:acc.length=1100
      ·rw[a8 hm] at hr;have bd:af (Except.error 6=res):=hr;have aqP:((acc.length:Int)==1100)=true:=(by simp;omega);clear hr hm bq;obtain⟨⟨aN,aL,aI,c3⟩,f0,f1,f2,f3⟩:=hj aX.out.a;have aP:=aq (qn aX.out bS.cy b3);go_wp2_with fail;refine dC (w:=h0 wr w.heap.size bS.cy b3) (v:=.tuple #[kF bS.cy b3,I 6]) ?_ rfl ?_
       ·clear aN aL aI c3 f0 f1 f2 f3;generalize h0 wr w.heap.size bS.cy b3=et at aP⊢;obtain⟨⟨aN,aL,aI,c3⟩,_⟩:=hj aP.out.1;simp[results,FP,go_sem,aN,aL,aI,c3]<;>rfl
       ·rw[←bd.out];exact⟨aP.out.2,rfl⟩
      ·rw[aR hm] at hr;have aqP:((acc.length:Int)==1100)=false:=(by simp;omega);obtain⟨hW,hA2⟩:=kb (eu 44 hD.data.toList).1;obtain⟨gU,mU⟩:=kb (eu 44 hD.data.toList).2.1;obtain⟨bo,dA⟩:=ar ((eu 44 hD.data.toList).2.2);have c1:af (eu 44 hD.data.toList=(hW.data.toList,gU.data.toList,bo)):=(by show _=_;rw[hA2,mU,←dA]);have fb:af (hW.size≤hD.size∧gU.size≤hD.size∧(bo=true→gU.size<hD.size)):=(by have av:=Iu 44 hD.data.toList;have az:=Iv 44 hD.data.toList;have aF:=fun h=>adp (c:=44) (l:=hD.data.toList) h;rw[←hA2,cG,cG] at av;rw[←mU,cG,cG] at az;rw[←mU,cG,cG,dA] at aF;exact⟨av,az,aF⟩);rw[←hA2,←mU,dA] at hr;obtain⟨⟨l,a,e⟩,hp⟩:=ar (vF.vH hW.data.toList);have bN:=aq hp;rw[hp] at hr;simp only[] at hr;have eF:=aq hr;clear hr hp hA2 mU dA bq c2 cc Bu aX;go_wp2_with fail;with_reducible refine (It hD FL.out 44 hW gU bo c1 _).mono ?_
       rintro na bt ⟨rfl,hd⟩;have dX:=aq (aO.out.below (ma hd));clear hd aO d0 d1 d2 d3 g0 g1 g2 g3;go_wp2_with fail;with_reducible refine (abR hW (dB (dB fb.out.1 FL.out) (by decide)) _ l a e bN).mono ?_
       rintro jY cZ ⟨v,rfl,aS,ev⟩;obtain⟨la,b2,rfl,L9⟩:=adM aS;have aO:=aq (dX.out.below ev);have Vt:=aq (L9.mono dX.out.aZ.size);clear ev aS L9 dX;by_cases he:e=0
       ·subst he;have kP:af (Ma n (if bo=true then pY g gU.data.toList (acc++[l]) else .ok (acc++[l]))=res):=eF.out;clear eF;obtain⟨xs,hx,ha⟩:=aO.out.row;have c2:=aq hx;have cc:=aq ha;clear hx ha;obtain⟨⟨d0,d1,d2,d3⟩,g0,g1,g2,g3⟩:=hj aO.out.nA;obtain⟨i0,ln,dE,dP,dq⟩:=info_parts aqM;have bZ:=aq (And.intro ln (And.intro dE (And.intro dP dq)));clear ln dE dP dq;go_wp2_with (at_builtin;refine xr _ rfl _ _ _ rfl w.heap.size 345 i0 (J 0) 1 24 Tryz.underlying257 bZ.out.1 bZ.out.2.1 bZ.out.2.2.1 bZ.out.2.2.2 rfl (by omega) (ad p acc.length cap) acc.length (xs) (by rfl) (c2.out.alloc _) (aj ((cZ).heap.size) 0) 1 1 [ad la l.length b2] (by rfl) rfl (kc (ga (cZ) _)) (by simp[Value.oneCell']) (by unfold maxLen;omega) (by omega) (by have:=aO.out.aZ.size;simp<;>omega) ?_;intro v' w' gx iB pw;obtain⟨g',mn,rfl,_,_⟩:=gx.form (by omega);obtain⟨L2,r2⟩:=aO.out.push (l:=l) (q:=la) (k:=b2) (v':=ad (some (aj g' 0)) (acc.length+1) mn) c2.out cc.out ((Below.refl _ _).alloc (bx _) _) iB gx Vt.out;have L3:=aq L2;have Vg:ak w' dR 3 _:=cell_of_row w' dR 3 _ _ (0,0) r2;have Vh:w'.frozen? ⟨dR,3,none⟩=false:=(by simp[World.frozen?,r2]);clear L2 r2;clear gx iB pw);clear d0 d1 d2 d3 g0 g1 g2 g3;go_round
        case rel=>exact⟨g,gU,bo,acc++[l],_,rfl,rfl,L3,dB fb.out.2.1 FL.out,(fun h=>by have:=e0.out;have:=fb.out.2.2 h;omega),(by show (acc++[l]).length≤_;rw[hl];simp only[GC];omega),kP⟩
        case measure=>
         show P1 (U bo) *(gU.size+1)<1 *(hD.size+1);have:=fb.out.2.2;cases bo with
         |false=>show 0 *(gU.size+1)<1 *(hD.size+1);omega
         |true=>show 1 *(gU.size+1)<1 *(hD.size+1);have:=this rfl;omega
       ·have L':((e:Int) !=0)=true:=(by simp;omega);have bd:af (Except.error e=res):=(by show _=_;rw[←eF.out,a8 he];rfl);have aX:af (wV w cZ):=⟨aO.out.r,aO.out.aZ⟩;clear eF he;obtain⟨⟨aN,aL,aI,c3⟩,f0,f1,f2,f3⟩:=hj aX.out.a;have aP:=aq (qn aX.out bS.cy b3);go_wp2_with fail;refine dC (w:=h0 cZ w.heap.size bS.cy b3) (v:=.tuple #[kF bS.cy b3,I (e:Int)]) ?_ rfl ?_
        ·clear aN aL aI c3 f0 f1 f2 f3;generalize h0 cZ w.heap.size bS.cy b3=et at aP⊢;obtain⟨⟨aN,aL,aI,c3⟩,_⟩:=hj aP.out.1;simp[results,FP,go_sem,aN,aL,aI,c3]<;>rfl
        ·rw[←bd.out];exact⟨aP.out.2,rfl⟩
  ·have bd:af (Except.error 3=res):=(by show _=_;rw[←aA,aqJ bl sE]);rw[eT sE] at hB;clear aA uv hQ gL qj sE bl b5;go_wp2_with fail;with_reducible refine (x7 _ _ _ hB _).mono ?_
   rintro e dp ⟨rfl,rfl⟩;obtain⟨⟨aN,aL,aI,c3⟩,f0,f1,f2,f3⟩:=hj aX.out.a;have aP:=aq (qn aX.out bS.cy b3);go_wp2_with fail;refine dC (w:=h0 cm w.heap.size bS.cy b3) (v:=.tuple #[kF bS.cy b3,I 3]) ?_ rfl ?_
   ·clear aN aL aI c3 f0 f1 f2 f3;generalize h0 cm w.heap.size bS.cy b3=et at aP⊢;obtain⟨⟨aN,aL,aI,c3⟩,_⟩:=hj aP.out.1;simp[results,FP,go_sem,aN,aL,aI,c3]<;>rfl
   ·rw[←bd.out];exact⟨aP.out.2,rfl⟩
theorem aqQ(S:Ua)(hs:S.size≤1000000000)(w:aeo):
  Calls Tryz.prog 179 #[aa S] w fun e w'=>e=ab (aa S)∧ao w w w':=by
 have adO:S.size≤281474976710656:=by omega
 have dT:=aq adO;clear hs adO;go_enter Tryz.func179,Tryz.ntmps179;go_wp2_with fail;with_reducible refine (Tryz.stringslite_Clone S _ dT.out).mono ?_
 rintro e bY ⟨rfl,ay⟩;have aO:=aq ay;clear ay;go_wp2_with fail;go_ret;exact⟨rfl,aO.out⟩
theorem aqR(h:JI s=.error n):n≠0:=by
 unfold JI at h;split at h
 ·cases h;decide
 ·split at h
  ·cases h;decide
  ·split at h;split at h
   ·rename_i aT;cases h;exact aT
   ·cases h
theorem adP:∀{f:Nat} {s:au} {acc:List (List (Int×Int))} {n:Nat},pY f s acc=.error n→n≠0
 |0,s,acc,n,h=>by cases h
 |f+1,s,acc,n,h=>by
  rw[adN] at h;split at h
  ·cases h;decide
  ·split at h;split at h
   ·rename_i aT;cases h;exact aT
   ·split at h
    ·exact adP h
    ·cases h
theorem aqS(h:rL s=.error n):n≠0:=by
 unfold rL at h;split at h
 ·cases h;decide
 ·split at h
  ·cases h;decide
  ·split at h
   ·cases h;decide
   ·split at h
    ·rename_i az;cases h;exact adP az
    ·split at h<;>cases h;decide
theorem aqU(h:sS s=.error n):n≠0:=by
 unfold sS at h;split at h
 ·cases h
 ·split at h
  ·cases h
  ·split at h
   ·exact aqR h
   ·exact aqS h
theorem aqV(S:Ua)(hs:S.size≤1000000000)(res:Except Nat eg)(hr:af (sS S.data.toList=res))(w:aeo):
  Calls Tryz.prog 137 #[aa S] w (Vq res w):=by
 have b7:=aq hs;have aA:=hr.out;unfold sS at aA;clear hr hs;have aX:af (wV w (w.alloc (ai (#[I 0,I 0,aa ⟨#[]⟩,J 0]) 259))):=Vp w;go_enter Tryz.func137,Tryz.ntmps137;go_upto_region 1 with fail;generalize w.alloc (.cells #[I 0,I 0,aa ⟨#[]⟩,J 0] 259)=W at aX⊢;by_cases bW:S.data.toList=[48]
 ·rw[a8 bW] at aA;have bd:af (Except.ok {bS.cy with k:=1}=res):=aA;have a1:(S.toList==[48])=true:=(by rw[eR];exact e' bW);clear aA bW;have pL:=aq (IE aX.out.a ({bS.cy with k:=1}:eg) (J 0));have aP:=aq (qn aX.out ({bS.cy with k:=1}:eg) (J 0));obtain⟨⟨aN,aL,aI,c3⟩,f0,f1,f2,f3⟩:=hj aX.out.a;go_wp2_with fail;refine dC (w:=h0 W w.heap.size ({bS.cy with k:=1}:eg) (J 0)) (v:=.tuple #[kF ({bS.cy with k:=1}:eg) (J 0),I 0]) ?_ rfl ?_
  ·clear aN aL aI c3 f0 f1 f2 f3 pL;generalize h0 W w.heap.size ({bS.cy with k:=1}:eg) (J 0)=et at aP⊢;obtain⟨⟨aN,aL,aI,c3⟩,_⟩:=hj aP.out.1;simp[results,IF,go_sem,aN,aL,aI,c3]<;>rfl
  ·rw[←bd.out];exact⟨aP.out.2,_,_,rfl,lk.nil _ _ _⟩
 ·rw[aR bW] at aA;have a1:(S.toList==[48])=false:=(by rw[eR];exact eT bW);by_cases cj:S.data.toList.take 2=[48,32]
  ·rw[a8 cj] at aA;have bN:af (decide (S.data.toList.take (⟨#[48,32]⟩:Ua).data.toList.length=(⟨#[48,32]⟩:Ua).data.toList)=true):=e' cj;have az:(2:Int)≤(S.size:Int):=(by have av:=fK List.length cj;rw[kj,cG] at av;simp at av;omega);have dd:S.data.toList.drop 2=(S.extract 2 S.size).data.toList:=(mS S 2).symm;have yw:af ((S.extract 2 S.size).size≤1000000000):=(by show _≤_;rw[←cG,mS,gI,cG];have:=b7.out;omega);rw[dd] at aA;have bd:af (Except.ok {bS.cy with k:=1,t:=(S.extract 2 S.size).data.toList}=res):=aA;clear aA bW cj dd;go_wp2_with fail;with_reducible refine (x7 _ _ _ bN _).mono ?_
   rintro e dp ⟨rfl,rfl⟩;go_wp2_with fail;with_reducible refine (aqQ (S.extract 2 S.size) yw.out _).mono ?_
   rintro e bt ⟨rfl,dS⟩;have tQ:=aq (aX.out.below dS);clear dS aX;have aX:=tQ;clear tQ;have pL:=aq (IE aX.out.a ({bS.cy with k:=1,t:=(S.extract 2 S.size).data.toList}:eg) (J 0));have aP:=aq (qn aX.out ({bS.cy with k:=1,t:=(S.extract 2 S.size).data.toList}:eg) (J 0));obtain⟨⟨aN,aL,aI,c3⟩,f0,f1,f2,f3⟩:=hj aX.out.a;go_wp2_with fail;refine dC (w:=h0 bt w.heap.size ({bS.cy with k:=1,t:=(S.extract 2 S.size).data.toList}:eg) (J 0)) (v:=.tuple #[kF ({bS.cy with k:=1,t:=(S.extract 2 S.size).data.toList}:eg) (J 0),I 0]) ?_ rfl ?_
   ·clear aN aL aI c3 f0 f1 f2 f3 pL;generalize h0 bt w.heap.size ({bS.cy with k:=1,t:=(S.extract 2 S.size).data.toList}:eg) (J 0)=et at aP⊢;obtain⟨⟨aN,aL,aI,c3⟩,_⟩:=hj aP.out.1;simp[results,IF,go_sem,aN,aL,aI,c3]<;>rfl
   ·rw[←bd.out];exact⟨aP.out.2,_,_,rfl,lk.nil _ _ _⟩
  ·rw[aR cj] at aA;have bN:af (decide (S.data.toList.take (⟨#[48,32]⟩:Ua).data.toList.length=(⟨#[48,32]⟩:Ua).data.toList)=false):=eT cj;have hB:af (decide (S.data.toList.take (⟨#[36]⟩:Ua).data.toList.length=(⟨#[36]⟩:Ua).data.toList)=decide (S.data.toList.headD 0=36)):=Vr _ (by decide);by_cases eb:S.data.toList.headD 0=36
   ·rw[a8 eb] at aA;rw[e' eb] at hB
    have Bt:0<S.size:=by
     rw[←cG];cases aH:S.data.toList with
     |nil=>rw[aH] at eb;exact absurd eb (by decide)
     |cons a b=>simp
    have jd:(1:Int)≤(S.size:Int):=(by omega);have dd:S.data.toList.drop 1=(S.extract 1 S.size).data.toList:=(mS S 1).symm;have yw:af ((S.extract 1 S.size).size≤1000000000):=(by show _≤_;rw[←cG,mS,gI,cG];have:=b7.out;omega);rw[dd] at aA;have bq:=aq aA;clear aA bW cj eb dd Bt;go_wp2_with fail;with_reducible refine (x7 _ _ _ bN _).mono ?_
    rintro e dp ⟨rfl,rfl⟩;go_wp2_with fail;with_reducible refine (x7 _ _ _ hB _).mono ?_
    rintro e dp ⟨rfl,rfl⟩;go_wp2_with fail;with_reducible refine (aqE (S.extract 1 S.size) yw.out res bq _).mono ?_
    rintro e bt ⟨dS,hx⟩;have tQ:=aq (aX.out.below dS);have ij:=aq aX.out.b.size;clear dS aX;have aX:=tQ;clear tQ;cases res with
    |error n=>
     obtain rfl:e=ab (.tuple #[kF bS.cy b3,I (n:Int)]):=hx;unfold kF yA bS.cy;obtain⟨⟨aN,aL,aI,c3⟩,f0,f1,f2,f3⟩:=hj aX.out.a;have aP:=aq (qn aX.out bS.cy b3);go_wp2_with fail;refine dC (w:=h0 bt w.heap.size bS.cy b3) (v:=.tuple #[kF bS.cy b3,I (n:Int)]) ?_ rfl ?_
     ·clear aN aL aI c3 f0 f1 f2 f3;generalize h0 bt w.heap.size bS.cy b3=et at aP⊢;obtain⟨⟨aN,aL,aI,c3⟩,_⟩:=hj aP.out.1;simp[results,IF,go_sem,aN,aL,aI,c3]<;>rfl
     ·exact⟨aP.out.2,rfl⟩
    |ok b=>
     obtain⟨q,k,rfl,vm⟩:=hx;have Bu:=aq (vm.mono ij.out);clear vm;unfold kF yA;have pL:=aq (IE aX.out.a b (ad q b.args.length k));have aP:=aq (qn aX.out b (ad q b.args.length k));obtain⟨⟨aN,aL,aI,c3⟩,f0,f1,f2,f3⟩:=hj aX.out.a;go_wp2_with fail;refine dC (w:=h0 bt w.heap.size b (ad q b.args.length k)) (v:=.tuple #[kF b (ad q b.args.length k),I 0]) ?_ rfl ?_
     ·clear aN aL aI c3 f0 f1 f2 f3 pL;generalize h0 bt w.heap.size b (ad q b.args.length k)=et at aP⊢;obtain⟨⟨aN,aL,aI,c3⟩,_⟩:=hj aP.out.1;simp[results,IF,go_sem,aN,aL,aI,c3]<;>rfl
     ·exact⟨aP.out.2,_,_,rfl,Bu.out.keep pL.out (by decide) (by decide)⟩
   ·rw[aR eb] at aA;rw[eT eb] at hB;have bq:=aq aA;clear aA bW cj eb;go_wp2_with fail;with_reducible refine (x7 _ _ _ bN _).mono ?_
    rintro e dp ⟨rfl,rfl⟩;go_wp2_with fail;with_reducible refine (x7 _ _ _ hB _).mono ?_
    rintro e dp ⟨rfl,rfl⟩;go_wp2_with fail;with_reducible refine (aqN S b7.out res bq _).mono ?_
    rintro e bt ⟨dS,hx⟩;have tQ:=aq (aX.out.below dS);have ij:=aq aX.out.b.size;clear dS aX;have aX:=tQ;clear tQ;cases res with
    |error n=>
     obtain rfl:e=ab (.tuple #[kF bS.cy b3,I (n:Int)]):=hx;unfold kF yA bS.cy;obtain⟨⟨aN,aL,aI,c3⟩,f0,f1,f2,f3⟩:=hj aX.out.a;have aP:=aq (qn aX.out bS.cy b3);go_wp2_with fail;refine dC (w:=h0 bt w.heap.size bS.cy b3) (v:=.tuple #[kF bS.cy b3,I (n:Int)]) ?_ rfl ?_
     ·clear aN aL aI c3 f0 f1 f2 f3;generalize h0 bt w.heap.size bS.cy b3=et at aP⊢;obtain⟨⟨aN,aL,aI,c3⟩,_⟩:=hj aP.out.1;simp[results,IF,go_sem,aN,aL,aI,c3]<;>rfl
     ·exact⟨aP.out.2,rfl⟩
    |ok b=>
     obtain⟨q,k,rfl,vm⟩:=hx;have Bu:=aq (vm.mono ij.out);clear vm;unfold kF yA;have pL:=aq (IE aX.out.a b (ad q b.args.length k));have aP:=aq (qn aX.out b (ad q b.args.length k));obtain⟨⟨aN,aL,aI,c3⟩,f0,f1,f2,f3⟩:=hj aX.out.a;go_wp2_with fail;refine dC (w:=h0 bt w.heap.size b (ad q b.args.length k)) (v:=.tuple #[kF b (ad q b.args.length k),I 0]) ?_ rfl ?_
     ·clear aN aL aI c3 f0 f1 f2 f3 pL;generalize h0 bt w.heap.size b (ad q b.args.length k)=et at aP⊢;obtain⟨⟨aN,aL,aI,c3⟩,_⟩:=hj aP.out.1;simp[results,IF,go_sem,aN,aL,aI,c3]<;>rfl
     ·exact⟨aP.out.2,_,_,rfl,Bu.out.keep pL.out (by decide) (by decide)⟩
def Mb(w:aeo)(p:Ja)(l:List (List UInt8)):Prop:=0<l.length→∃b o,p=some ⟨b,o,none⟩∧b<w.heap.size∧∀i (hi:i<l.length),ak w b (o+i) (aa ⟨l[i].toArray⟩)
theorem Mb.below{w':aeo}{p:Ja}{l:List (List UInt8)}(h:Mb w p l)(ay:ao w w w'):Mb w' p l:=by intro aA;obtain⟨b,o,hp,b1,hc⟩:=h aA;exact⟨b,o,hp,jN b1 ay.size,fun i hi=>(ay.cell (p:=⟨b,o+i,none⟩) b1).trans (hc i hi)⟩
inductive pd(B:Nat)(w:aeo):List eg→aev→Prop
 |nil:pd B w [] []
 |cons {x:eg} {l:List eg} {q:Ja} {k:Nat} {xs:aev}:lk B w q x.args→pd B w l xs→pd B w (x::l) ((yA x (ad q x.args.length k)).toList++xs)
theorem pd.keep{T:aai}{B:Nat}{w w':aeo}{l:List eg}{xs:aev}(h:pd B w l xs)(ax:kD T w w')(av:413≠T)(az:345≠T):pd B w' l xs:=by
 induction h with
 |nil=>exact .nil
 |cons a _ cT=>exact .cons (a.keep ax av az) cT
theorem pd.append{l m:List eg}{xs fw:aev}(h:pd B w l xs)(g:pd B w m fw):pd B w (l++m) (xs++fw):=by
 induction h with
 |nil=>exact g
 |cons a _ cT=>rw[Jv,List.append_assoc];exact .cons a cT
theorem pd.snoc{l:List eg}{xs:aev}(h:pd B w l xs)(x:eg)(k:Nat)(hx:lk B w q x.args):pd B w (l++[x]) (xs++(yA x (ad q x.args.length k)).toList):=by
 have az:=h.append (.cons (k:=k) hx .nil)
 rwa [List.append_nil] at az
theorem pd.get{l:List eg}{xs:aev}(h:pd B w l xs):∀(i:Nat) (hi:i<l.length),∃q c,xs[i *4]?=some (I l[i].k)∧xs[i *4+1]?=some (I l[i].n)∧xs[i *4+2]?=some (aa ⟨l[i].t.toArray⟩)∧xs[i *4+3]?=some (.slice q l[i].args.length c)∧lk B w q l[i].args:=by
 induction h with
 |nil=>exact fun i hi=>absurd hi (nB _)
 |cons a _ cT=>
  intro i hi;cases i with
  |zero=>exact⟨_,_,rfl,rfl,rfl,rfl,a⟩
  |succ i=>
   obtain⟨q,c,g0,g1,g2,g3,g4⟩:=cT i (A9 hi);refine⟨q,c,?_,?_,?_,?_,g4⟩
   ·rw[show (i+1) *4=i *4+1+1+1+1 by omega];exact g0
   ·rw[show (i+1) *4+1=(i *4+1)+1+1+1+1 by omega];exact g1
   ·rw[show (i+1) *4+2=(i *4+2)+1+1+1+1 by omega];exact g2
   ·rw[show (i+1) *4+3=(i *4+3)+1+1+1+1 by omega];exact g3
theorem aqW{l:List eg}{xs:aev}(h:w.ownsRow B 259 4 v l.length xs)(ha:pd B w l xs):∃p c,v=ad p l.length c∧fG B w p l:=by
 rcases h.2 with ⟨av,az⟩|⟨g,c,cur,av,az,aF,bk,b9,cW,eN⟩
 ·exact⟨none,0,by rw[av,az],fun aA=>absurd aA (by omega)⟩
 ·refine⟨_,c,av,fun aA=>⟨g,0,cur,rfl,az,aF,fun i hi=>?_⟩⟩;obtain⟨q,k,g0,g1,g2,g3,g4⟩:=ha.get i hi;have key:∀j,j<l.length *4→cur[j]?=xs[j]?:=(fun j cr=>by rw[←eN,Iy cr,xP]);refine⟨q,k,?_,?_,?_,?_,g4⟩
  ·rw[kr,key _ (by omega)];exact g0
  ·rw[kr,key _ (by omega)];exact g1
  ·rw[kr,key _ (by omega)];exact g2
  ·rw[kr,key _ (by omega)];exact g3
def aqX(bs:List eg)(i e:Nat)(w:aeo)(jY:Ending)(w':aeo):Prop:=Below w.heap.size w w'∧∃q k,jY=ab (.tuple #[ad q bs.length k,I (i:Int),I (e:Int)])∧fG w.heap.size w' q bs
def Vu:Except (Nat×Nat) (List eg)→List eg×Nat×Nat
 |.error (i,e)=>([],i,e)
 |.ok b=>(b,0,0)
theorem aqY(l:List (List UInt8))(h:¬500<l.length):yX l=Vu (vO l 0 []):=by unfold yX;rw[aR h];cases vO l 0 []<;>rfl
def adQ(k:Nat)(r:List (List UInt8))(acc:List eg):Except Nat eg→Except (Nat×Nat) (List eg)
 |.error e=>.error (k,e)
 |.ok b=>vO r (k+1) (acc++[b])
theorem aqZ{l:List (List UInt8)}(h:k<l.length)(acc:List eg):vO (l.drop k) k acc=adQ k (l.drop (k+1)) acc (sS l[k]):=by rw[lT h];show (match sS l[k] with|.error e=>_|.ok b=>_)=_;cases sS l[k]<;>rfl
theorem aq0:(Tryz.prog.info? 259).map (fun i=>(i.zero,i.size,i.bytes))=some (some (.agg #[I 0,I 0,aa ⟨#[]⟩,J 0]),4,56):=by kernel_rfl
theorem aq1{W X bV:aeo}{v':ada}{acc:List eg}{xs:aev}{x:eg}(hx:W.ownsRow w.heap.size 259 4 v acc.length xs)(ha:pd w.heap.size W acc xs)(vm:lk w.heap.size W q x.args)(bL:ao w w W)(dd:ao W W X)(ba:X.grownBy bV v.ownBlock)(bl:bV.ownsRow w.heap.size 259 4 v' (acc.length+1) (xs++(yA x (ad q x.args.length k)).toList)):
  (∃fw,bV.ownsRow w.heap.size 259 4 v' (acc++[x]).length fw∧pd w.heap.size bV (acc++[x]) fw)∧ao w w bV:=by
 have l0:=e9 hx dd;have hK:kD 259 W bV:=(kD.dI dd).trans (.grown l0 ba);refine⟨⟨_,?_,(ha.keep hK (by decide) (by decide)).snoc x k (vm.keep hK (by decide) (by decide))⟩,?_⟩
 ·rw[show (acc++[x]).length=acc.length+1 by simp];exact bl
 ·have dA:=bL.trans (dd.mono bL.size);exact dA.grown ba dA.size (fun k ax=>(l0.lt _ ax).1)
theorem adR(p:Ja)(cap:Nat)(l:List (List UInt8))(w:aeo)(mc:af (Mb w p l))(hn:l.length≤1000000)(hs:af (∀s∈l,s.length≤1000000000))(bs:List eg)(i e:Nat)(h:af (yX l=(bs,i,e))):
  Calls Tryz.prog 92 #[ad p l.length cap] w (aqX bs i e w):=by
 by_cases b9:500<l.length
 ·have aA:=h.out;unfold yX at aA;rw[a8 b9] at aA;simp only[fS] at aA;obtain⟨rfl,rfl,rfl⟩:=aA;have aq2:(500:Int)<(l.length:Int):=(by omega);clear h;go_enter Tryz.func92,Tryz.ntmps92;go_wp2_with fail;go_ret3;exact⟨Below.refl _ _,none,0,rfl,fG.nil _ _ _⟩
 ·have aq2:¬(500:Int)<(l.length:Int):=(by omega);have aA:=h.out;rw[aqY l b9] at aA;have dT:=aq aA;clear aA h;go_enter Tryz.func92,Tryz.ntmps92;go_wp2_with fail
  go_loopw [5,15] (fun u x wr=>∃(k:Nat) (acc:List eg),k≤l.length∧af (acc.length=k)∧x=I (k:Int)∧af (∃xs,wr.ownsRow w.heap.size 259 4 u acc.length xs∧pd w.heap.size wr acc xs)∧af (ao w w wr)∧af (Vu (vO (l.drop k) k acc)=(bs,i,e))) (fun _ x _=>l.length -(intOf x).toNat)
  case atStart=>exact⟨0,[],eE _,rfl,rfl,⟨[],FG _ _ _ _,.nil⟩,Below.refl _ _,dT⟩
  case round=>
   obtain⟨k,acc,ax,adS,rfl,c2,aO,bq⟩:=hrel;obtain⟨xs,hx,ha⟩:=c2.out;obtain⟨e5,cv,rfl,Di⟩:=aqW hx ha;have mA:=aq hx;have cc:=aq ha;have IH:=aq Di;clear hx ha Di c2;by_cases b1:k<l.length
   ·have hr:=bq.out;rw[aqZ b1] at hr;obtain⟨S,hS⟩:=kb l[k];rw[←hS] at hr;obtain⟨II,Kt⟩:=ar (sS S.data.toList);have adU:=aq Kt;rw[Kt] at hr;have eF:=aq hr;obtain⟨b,o,rfl,FQ,hc⟩:=mc.out (by omega);have Cx:ak wr b (o+k) (aa S):=(by rw[aO.out.cell (p:=⟨b,o+k,none⟩) FQ,hc k b1,←hS]);have aq3:af (S.size≤1000000000):=(by show _≤_;rw[←cG,hS];exact hs.out _ (mu b1));have i':(k:Int)<(l.length:Int):=(by omega);clear hr Kt hS hc bq;go_wp2_with fail;with_reducible refine (aqV S aq3.out II adU _).mono ?_
    rintro jY bt ⟨dS,tS⟩;have dX:=aq (aO.out.trans (dS.mono aO.out.size));have adV:=aq (e9 mA.out dS);have LO:=aq (cc.out.keep (T:=0) (.dI dS) (by decide) (by decide));clear dS mA cc IH;cases II with
    |error n=>
     obtain rfl:jY=ab (.tuple #[kF bS.cy b3,I (n:Int)]):=tS;have l4:n≠0:=aqU adU.out;have K7:((n:Int) !=0)=true:=(by simp;omega);have aH:=eF.out;unfold adQ Vu at aH;simp only[fS] at aH;obtain⟨rfl,rfl,rfl⟩:=aH;unfold kF yA bS.cy;clear l4 eF;go_wp2_with fail;go_ret3;exact⟨dX.out.alloc dX.out.size _,none,0,rfl,fG.nil _ _ _⟩
    |ok x=>
     obtain⟨q,c,rfl,vm⟩:=tS;have Bu:=aq (vm.mono aO.out.size);unfold kF yA;clear vm;have Td:acc.length≤1000000:=(by have:=adS.out;omega);obtain⟨i0,ln,dE,dP,dq⟩:=info_parts aq0;have bZ:=aq (And.intro ln (And.intro dE (And.intro dP dq)));clear ln dE dP dq;go_wp2_with (at_builtin;refine xr _ rfl _ _ _ rfl w.heap.size 259 i0 (.agg #[I 0,I 0,aa ⟨#[]⟩,J 0]) 4 56 Tryz.underlying102 bZ.out.1 bZ.out.2.1 bZ.out.2.2.1 bZ.out.2.2.2 rfl (by omega) (ad e5 acc.length cv) acc.length (xs) (by rfl) ((adV.out.alloc _).alloc _) (aj (bt.heap.size+1) 0) 1 1 [I x.k,I x.n,aa ⟨x.t.toArray⟩,ad q x.args.length c] (by rfl) rfl (kc (PU bt _ _)) (by simp[Value.oneCell']) (by unfold maxLen;omega) (by omega) (by have:=dX.out.size;simp<;>omega) ?_;intro v' w' gx iB pw;obtain⟨g',mn,rfl,_,_⟩:=gx.form (by omega);have bf:af ((∃fw,w'.ownsRow w.heap.size 259 4 (ag g' 0 (acc.length+1) mn) (acc++[x]).length fw∧pd w.heap.size w' (acc++[x]) fw)∧ao w w w'):=aq1 adV.out LO.out (k:=c) Bu.out dX.out (((Below.refl _ _).alloc (bx _) _).alloc (by simp) _) iB gx;clear gx iB pw);go_round
     case rel=>exact⟨k+1,acc++[x],by omega,(by have:=adS.out;show (acc++[x]).length=k+1;rw[hl];simp only[GC];omega),by go_num,bf.out.1,bf.out.2,eF⟩
     case measure=>simp[intOf];omega
   ·have PM:k=l.length:=(by omega);have i':¬(k:Int)<(l.length:Int):=(by omega);have aH:=bq.out;rw[PM,List.drop_length] at aH;have OL:(acc,0,0)=(bs,i,e):=aH;simp only[fS] at OL;obtain⟨rfl,rfl,rfl⟩:=OL;clear aH bq;go_wp2_with fail;go_ret3;exact⟨aO.out,_,_,rfl,IH.out⟩
end gT
