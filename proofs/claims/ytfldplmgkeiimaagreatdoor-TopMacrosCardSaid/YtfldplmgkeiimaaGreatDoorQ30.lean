/- Lemmas. -/
import Derived.Test.YtfldplmgkeiimaaGreatDoorQ29
set_option linter.all false
set_option maxRecDepth 100000
set_option maxHeartbeats 25600000
namespace Go.Proofs.YtfldplmgkeiimaaGreatDoor
namespace gT
open Go.RowKit ny j6 px Mem p1 bS
def Mc(w:aeo)(p:Ja)(l:List ea):Prop:=0<l.length→∃b o,p=some ⟨b,o,none⟩∧b<w.heap.size∧∀i (hi:i<l.length),ak w b (o+i *4) (I (l[i].a:Int))∧ak w b (o+i *4+1) (U l[i].ext)∧ak w b (o+i *4+2) (U l[i].first)∧ak w b (o+i *4+3) (aa ⟨l[i].t.toArray⟩)
variable{w W:aeo}{l ws:List ea}
theorem Mc.below{w':aeo}{p:Ja}(h:Mc w p l)(ay:ao w w w'):Mc w' p l:=by intro aA;obtain⟨b,o,hp,b1,hc⟩:=h aA;refine⟨b,o,hp,jN b1 ay.size,fun i hi=>?_⟩;obtain⟨aT,av,az,aF⟩:=hc i hi;exact⟨(ay.cell (p:=⟨b,o+i *4,none⟩) b1).trans aT,(ay.cell (p:=⟨b,o+i *4+1,none⟩) b1).trans av,(ay.cell (p:=⟨b,o+i *4+2,none⟩) b1).trans az,(ay.cell (p:=⟨b,o+i *4+3,none⟩) b1).trans aF⟩
def aq4(res:Except (Nat×Nat) (List C))(w:aeo)(jY:Ending)(w':aeo):Prop:=Below w.heap.size w w'∧match res with
 |.ok cs=>∃v,jY=ab (.tuple #[v,I 0,I 0])∧jJ w.heap.size w' v (tR cs)
 |.error x=>jY=ab (.tuple #[b3,I (x.1:Int),I (x.2:Int)])
variable{B i n:Nat}
theorem Vv(x:Nat×C){p q:Ja}{k m:Nat}(bL:B≤W.heap.size)(hn:eW B W p x.2.b6)(ay:fG B W q x.2.blocks):
  jJ B (W.alloc (ai (iX x.2 (x.1:Int) (ad p x.2.b6.length k) (ad q x.2.blocks.length m)) 104)) (ag W.heap.size 0 1 1) [x]:=by
 have hK:kD (0:aai) W (W.alloc (ai (iX x.2 (x.1:Int) (ad p x.2.b6.length k) (ad q x.2.blocks.length m)) 104)):=.dI ((Below.refl _ _).alloc (bx _) _);refine⟨_,⟨rfl,.inr ⟨W.heap.size,1,_,rfl,bL,ga W _,bx _,by unfold maxLen;omega,rfl,?_⟩⟩,.cons (k:=k) (m:=m) (hn.keep hK (by decide)) (ay.keep hK (by decide) (by decide) (by decide)) .nil⟩;rw[List.append_nil];rfl
def vn(l:List (List UInt8)):List Value:=l.map fun s=>aa ⟨s.toArray⟩
variable{v:ada}
theorem adW{l:List (List UInt8)}(h:w.ownsRow B 9 1 v l.length (vn l)):∃p c,v=ad p l.length c∧Mb w p l:=by
 rcases h.2 with ⟨av,az⟩|⟨g,c,cur,av,az,aF,bk,b9,cW,eN⟩
 ·exact⟨none,0,by rw[av,az],fun aA=>absurd aA (by omega)⟩
 ·subst av;refine⟨_,c,rfl,fun aA=>⟨g,0,rfl,(Array.getElem?_eq_some_iff.1 aF).1,fun i hi=>?_⟩⟩;have hJ:(vn l)[i]?=some (aa ⟨l[i].toArray⟩):=(by rw[vn,Ct,l8 hi];rfl);rw[kr,World.ownsRow.cellAt h i (by omega),hJ]
theorem adX:∀{l:List (List UInt8)} {k:Nat} {acc:List eg} {i e:Nat},vO l k acc=.error (i,e)→i<k+l.length
 |[],k,acc,i,e,h=>by cases h
 |s::l,k,acc,i,e,h=>by
  unfold vO at h;split at h
  ·injection h with h;injection h with av _;rw[eP];omega
  ·have:=adX h;rw[eP];omega
theorem adY{l:List (List UInt8)}{b:List eg}{e:Nat}(h:yX l=(b,i,e))(he:e≠0):i<l.length:=by
 unfold yX at h;split at h
 ·rename_i b9;simp only[fS] at h;omega
 ·split at h
  ·rename_i az;have:=adX az;simp only[fS] at h;omega
  ·simp only[fS] at h;omega
theorem aq5:(Tryz.prog.info? 9).map (fun i=>(i.zero,i.size,i.bytes))=some (some (aa ⟨#[]⟩),1,16):=by kernel_rfl
theorem adZ{x:aeo}{b:Nat}{v0 v1 v2 v3:ada}{t:aai}(h:an x b (#[v0,v1,v2,v3]) t):
 ak x b 0 v0∧ak x b 1 v1∧ak x b 2 v2∧ak x b 3 v3:=(hj h).1
structure aq6(w:aeo)(b:Nat)(c:C)(p:Ja)(k:Nat)(W:aeo):Prop where
 Fb:W.heap[b]?=some (tE c 0 (ad p c.b6.length k) b3)
 b6:eW w.heap.size W p c.b6
 aZ:ao w w W
variable{t s:au}
theorem ad0(h:ui t=.error n):n≠0:=by
 unfold ui at h;split at h
 ·cases h;decide
 ·split at h
  ·cases h
  ·split at h
   ·cases h;decide
   ·cases h
theorem Qc{w':aeo}(bL:B≤w.heap.size)(h:HI w w'):Below B w w':=(ma h).mono bL
theorem aq7{k:Nat}{z:Ua}(h:k<l.length)(e:(⟨l[k].t.toArray⟩:Ua)=z)(bl:W.ownsRow B 9 1 v n (vn ((l.take k).map ea.t)++[aa z])):W.ownsRow B 9 1 v n (vn ((l.take (k+1)).map ea.t)):=by
 have az:vn ((l.take (k+1)).map ea.t)=vn ((l.take k).map ea.t)++[aa z]:=by rw[P2,l8 h,nb,←e];simp[vn]
 rw[az];exact bl
theorem aq8{X bV:aeo}{xs:aev}{fC:Nat}{hX:ajv}(hx:W.ownsRow w.heap.size 9 1 v n xs)(bL:ao w w W)(hw:an W fC hX 153)(dd:ao W W X)(ba:X.grownBy bV v.ownBlock):
  ao w w bV∧an bV fC hX 153:=by
 have l0:=e9 hx dd;have dA:=bL.trans (dd.mono bL.size);have xL:=aU hw dd;exact⟨dA.grown ba dA.size (fun k ax=>(l0.lt _ ax).1),(ba.block _ (Array.getElem?_eq_some_iff.1 xL).1 (gJ (oZ l0 xL (by decide)))).trans xL⟩
theorem aq9(p:Ja)(cap:Nat)(x:ea)(l:List ea)(w:aeo)(mc:af (Mc w p (x::l)))(hn:l.length≤999999)(KH:l.length+1≤cap)(DX:cap≤maxLen)(hs:af (∀y∈x::l,y.t.length≤1000000000))(res:Except (Nat×Nat) (List C))(hr:af (xk x l=res)):
  Calls Tryz.prog 62 #[ad p (l.length+1) cap] w (aq4 res w):=by
 obtain⟨b,o,rfl,b1,hc⟩:=mc.out (Eo _);have aT:=hc 0 (Eo _);rw[show o+0 *4=o by omega] at aT;obtain⟨aD,aG,jL,lN⟩:=aT;simp only[Is] at aD aG jL lN;obtain⟨T,eS⟩:=kb x.t;have vo:(⟨x.t.toArray⟩:Ua)=T:=lY eS.symm;rw[vo] at lN;have sf:af (T.size≤1000000000):=by show _≤_;rw[←cG,eS];exact hs.out x (by simp)
 have bz:af (b<w.heap.size∧∀i (hi:i<(x::l).length),ak w b (o+i *4) (I ((x::l)[i].a:Int))∧ak w b (o+i *4+1) (U (x::l)[i].ext)∧ak w b (o+i *4+2) (U (x::l)[i].first)∧ak w b (o+i *4+3) (aa ⟨(x::l)[i].t.toArray⟩)):=⟨b1,hc⟩;have aA:=hr.out;unfold xk at aA;rw[←eS] at aA;obtain⟨pN,Bv⟩:∃a:Int,(x.a:Int)=a:=⟨_,rfl⟩;rw[Bv] at aD;have FR:=aq Bv;have ax8:(0:Int)≤(l.length:Int):=by omega
 clear b1 hc hr eS vo Bv;have ez:af ((w.alloc (ai (#[I pN,U x.ext,U x.first,aa T]) 153)).heap[w.heap.size]?=some (.cells #[I pN,U x.ext,U x.first,aa T] 153)∧ao w w (w.alloc (ai (#[I pN,U x.ext,U x.first,aa T]) 153))):=⟨ga w _,(Below.refl _ _).alloc (bx _) _⟩;go_enter Tryz.func62,Tryz.ntmps62;go_upto_region 2 with fail;clear aD aG jL lN;generalize w.alloc (.cells #[I pN,U x.ext,U x.first,aa T] 153)=ck at ez⊢;obtain⟨aC,aE,fJ,y3⟩:=adZ ez.out.1;by_cases IJ:T.data.toList.take 2=[65,77]
 ·rw[aR (fun h=>h IJ)] at aA;obtain⟨R,hR⟩:=kb (T.data.toList.drop 2);have bN:af (T.data.toList=(⟨#[65,77]⟩:Ua).data.toList++R.data.toList):=(by show _=_;rw[hR];exact TI (p:=[65,77]) IJ);have qI:af (R.size≤maxLen):=(by show _≤_;have av:=fK List.length hR;rw[cG,gI,cG] at av;have:=sf.out;unfold maxLen;omega);rw[←hR] at aA;obtain⟨wQ,zQ⟩:=ar (qX R.data.toList);have nG:=aq zQ;rw[zQ] at aA;clear hR zQ IJ;go_wp2_with fail;with_reducible refine (qd _ _ _ bN _).mono ?_
  rintro e bY ⟨rfl,rfl⟩;rw[qc];go_wp2_with fail;with_reducible refine (abr R qI.out wQ nG _).mono ?_
  rintro e bY ⟨rfl,rfl⟩;cases wQ with
  |false=>
   rw[a8 rfl] at aA;have bd:af (Except.error (x.a,3)=res):=aA;clear aA;go_upto_region 11 with fail
   go_quiet (fail)
   go_wp2_with fail;go_ret3;rw[←bd.out];exact⟨ez.out.2.trans (Qc ez.out.2.size ⟨_,rfl⟩),by rw[←FR.out];rfl⟩
  |true=>
   rw[aR (by decide)] at aA;obtain⟨⟨bs,i,e⟩,ay⟩:=ar (yX (l.map ea.t));have va:=aq ay;rw[ay] at aA;simp only[] at aA;have qO:=aq aA;clear ay aA;have ax9:(l.length:Int)+1≤(cap:Int):=(by omega);obtain At|At:cap=1∨1<cap:=by omega
   ·skip
    go_wp2_with fail;clear aC aE fJ y3
    go_loopw [10,55] (fun u FT wr=>∃(k:Nat),k≤l.length∧FT=I (k:Int)∧af (wr.ownsRow w.heap.size 9 1 u k (vn ((l.take k).map ea.t)))∧af (ao w w wr)∧af (an wr w.heap.size (#[I pN,U x.ext,U x.first,aa T]) 153)) (fun _ FT _=>l.length -(intOf FT).toNat)
    case atStart=>exact⟨0,eE _,rfl,FG _ _ _ _,ez.out.2,ez.out.1⟩
    case round=>
     obtain⟨k,ax,rfl,c2,aO,Qd⟩:=hrel;obtain⟨e5,cv,rfl⟩:=jf c2.out;by_cases b1:k<l.length
     ·exfalso;omega
     ·obtain rfl:k=l.length:=(by omega);have wF:wr.ownsRow w.heap.size 9 1 (ad e5 l.length cv) (l.map ea.t).length (vn (l.map ea.t)):=(by have h:=c2.out;rw[vD] at h;rw[e6];exact h);obtain⟨kH,bF,Bw,EN⟩:=adW wF;rw[e6] at Bw;injection Bw with a1 _ ch;subst a1;subst ch;have Md:=aq EN;have pJ:=adR e5 cv (l.map ea.t) wr Md (by rw[e6];omega) (aq (by intro s vb;obtain⟨y,hy,rfl⟩:=List.mem_map.1 vb;exact hs.out y (Af _ hy))) bs i e va;rw[e6] at pJ;have Dj:=aq pJ;clear wF EN pJ;go_wp2_with fail;with_reducible refine Dj.out.mono ?_
      rintro jY bt ⟨dS,q,hz,rfl,Di⟩;have dX:=aq (aO.out.trans (dS.mono aO.out.size));have IH:=aq (Di.mono aO.out.size);have Me:=aq (aU Qd.out dS);clear dS Di c2 Md Dj;by_cases he:e=0
      ·subst he;have bd:af (Except.ok [{b4 19 with t:=R.data.toList,blocks:=bs}]=res):=(by have h:=qO.out;rw[aR (fun h=>h rfl)] at h;exact h);have Dk:=aq (Vv (W:=bt) (0,{b4 19 with t:=R.data.toList,blocks:=bs}) (p:=none) (q:=q) (k:=0) (m:=hz) dX.out.size (eW.nil _ _ _) IH.out);clear qO;go_wp2_with fail;go_ret3;rw[←bd.out];exact⟨dX.out.alloc dX.out.size _,_,rfl,Dk.out⟩
      ·have L':((e:Int) !=0)=true:=by simp;omega
       have ad1:i<l.length:=by
        have h:=adY va.out he
        rwa [e6] at h
       exfalso;omega
   ·have aya:(1:Int)<(cap:Int):=(by omega);go_wp2_with fail;clear aC aE fJ y3
    go_loopw [10,55] (fun u FT wr=>∃(k:Nat),k≤l.length∧FT=I (k:Int)∧af (wr.ownsRow w.heap.size 9 1 u k (vn ((l.take k).map ea.t)))∧af (ao w w wr)∧af (an wr w.heap.size (#[I pN,U x.ext,U x.first,aa T]) 153)) (fun _ FT _=>l.length -(intOf FT).toNat)
    case atStart=>exact⟨0,eE _,rfl,FG _ _ _ _,ez.out.2,ez.out.1⟩
    case round=>
     obtain⟨k,ax,rfl,c2,aO,Qd⟩:=hrel;obtain⟨e5,cv,rfl⟩:=jf c2.out;by_cases b1:k<l.length
     ·have i':(k:Int)<(l.length:Int):=(by omega);obtain⟨z0,z1,z2,z3⟩:=bz.out.2 (k+1) (by rw[eP];omega);rw[←aO.out.cell (p:=⟨b,o+(k+1) *4,none⟩) bz.out.1,show o+(k+1) *4=o+4+k *4 by omega] at z0;rw[←aO.out.cell (p:=⟨b,o+(k+1) *4+1,none⟩) bz.out.1,show o+(k+1) *4=o+4+k *4 by omega] at z1;rw[←aO.out.cell (p:=⟨b,o+(k+1) *4+2,none⟩) bz.out.1,show o+(k+1) *4=o+4+k *4 by omega] at z2;rw[←aO.out.cell (p:=⟨b,o+(k+1) *4+3,none⟩) bz.out.1,show o+(k+1) *4=o+4+k *4 by omega] at z3;simp only[FK] at z0 z1 z2 z3;obtain⟨ad2,zT⟩:∃a:Int,(l[k].a:Int)=a:=⟨_,rfl⟩;obtain⟨ayb,H'⟩:=ar (l[k].ext);obtain⟨ayc,ad3⟩:=ar (l[k].first);obtain⟨ara,Vw⟩:∃a:Ua,(⟨l[k].t.toArray⟩:Ua)=a:=⟨_,rfl⟩;rw[zT] at z0;rw[H'] at z1;rw[ad3] at z2;rw[Vw] at z3;have arb:=aq Vw;clear zT H' ad3 Vw;obtain⟨i0,ln,dE,dP,dq⟩:=info_parts aq5;have bZ:=aq (And.intro ln (And.intro dE (And.intro dP dq)));clear ln dE dP dq;go_wp2_with (at_builtin;refine xr _ rfl _ _ _ rfl w.heap.size 9 i0 (aa ⟨#[]⟩) 1 16 Tryz.underlying29 bZ.out.1 bZ.out.2.1 bZ.out.2.2.1 bZ.out.2.2.2 rfl (by omega) (ad e5 k cv) k (vn ((l.take k).map ea.t)) (by rfl) ((c2.out.alloc _).alloc _) (aj (wr.heap.size+1) 0) 1 1 [aa ara] (by rfl) rfl (kc (PU wr _ _)) (by simp[Value.oneCell']) (by unfold maxLen;omega) (by omega) (by have:=aO.out.size;simp<;>omega) ?_;intro v' w' gx iB pw;obtain⟨g',mn,rfl,_,_⟩:=gx.form (by omega);have lb:=aq (aq7 b1 arb.out gx);have oA:=aq (aq8 c2.out aO.out Qd.out (((Below.refl _ _).alloc (bx _) _).alloc (by simp) _) iB);clear gx iB pw);clear z0 z1 z2 z3;go_round
      case rel=>exact⟨k+1,by omega,by go_num,lb,oA.out.1,oA.out.2⟩
      case measure=>simp[intOf];omega
     ·obtain rfl:k=l.length:=(by omega);have wF:wr.ownsRow w.heap.size 9 1 (ad e5 l.length cv) (l.map ea.t).length (vn (l.map ea.t)):=(by have h:=c2.out;rw[vD] at h;rw[e6];exact h);obtain⟨kH,bF,Bw,EN⟩:=adW wF;rw[e6] at Bw;injection Bw with a1 _ ch;subst a1;subst ch;have Md:=aq EN;have pJ:=adR e5 cv (l.map ea.t) wr Md (by rw[e6];omega) (aq (by intro s vb;obtain⟨y,hy,rfl⟩:=List.mem_map.1 vb;exact hs.out y (Af _ hy))) bs i e va;rw[e6] at pJ;have Dj:=aq pJ;clear wF EN pJ;go_wp2_with fail;with_reducible refine Dj.out.mono ?_
      rintro jY bt ⟨dS,q,hz,rfl,Di⟩;have dX:=aq (aO.out.trans (dS.mono aO.out.size));have IH:=aq (Di.mono aO.out.size);have Me:=aq (aU Qd.out dS);clear dS Di c2 Md Dj;by_cases he:e=0
      ·subst he;have bd:af (Except.ok [{b4 19 with t:=R.data.toList,blocks:=bs}]=res):=(by have h:=qO.out;rw[aR (fun h=>h rfl)] at h;exact h);have Dk:=aq (Vv (W:=bt) (0,{b4 19 with t:=R.data.toList,blocks:=bs}) (p:=none) (q:=q) (k:=0) (m:=hz) dX.out.size (eW.nil _ _ _) IH.out);clear qO;go_wp2_with fail;go_ret3;rw[←bd.out];exact⟨dX.out.alloc dX.out.size _,_,rfl,Dk.out⟩
      ·have L':((e:Int) !=0)=true:=by simp;omega
       have ad1:i<l.length:=by
        have h:=adY va.out he
        rwa [e6] at h
       have bd:af (Except.error (l[i].a,e)=res):=(by have h:=qO.out;rw[a8 he,Ct,l8 ad1] at h;exact h);have z0:=(bz.out.2 (i+1) (by rw[eP];omega)).1;rw[←dX.out.cell (p:=⟨b,o+(i+1) *4,none⟩) bz.out.1] at z0;simp only[FK] at z0;obtain⟨ad2,zT⟩:∃a:Int,(l[i].a:Int)=a:=⟨_,rfl⟩;rw[zT] at z0;have yu:=aq zT;have arc:(1:Int)+(i:Int)=((i+1:Nat):Int):=(by omega);have acS:(i:Int)<(l.length:Int):=(by omega);have ard:((i+1:Nat):Int)<(l.length:Int)+1:=(by omega);clear qO he zT;go_upto_region 20 with fail
       go_quiet (fail)
       go_wp2_with fail;go_ret3;rw[←bd.out];exact⟨dX.out.trans (Qc dX.out.size ⟨_,rfl⟩),by rw[←yu.out];rfl⟩
 ·rw[a8 IJ] at aA;have bN:af (∀r,T.data.toList≠(⟨#[65,77]⟩:Ua).data.toList++r):=TJ (p:=[65,77]) IJ;obtain⟨fM,jd⟩:=ar (ui T.data.toList);have tN:=aq jd;rw[jd] at aA;clear jd IJ;go_wp2_with fail;with_reducible refine (CI _ _ bN _).mono ?_
  rintro e bY ⟨rfl,rfl⟩;go_wp2_with fail;with_reducible refine (ap5 T sf.out fM tN _).mono ?_
  rintro e bY ⟨dA,hx⟩;have cP:=aq (ez.out.2.trans (dA.mono ez.out.2.size));have Mf:=aq (aU ez.out.1 dA);have se:=aq ez.out.2.size;clear dA aC aE fJ y3 ez;cases fM with
  |error n=>
   obtain rfl:e=ab (.tuple #[kS bS.aN 0 b3 b3,I (n:Int)]):=hx;have l4:n≠0:=ad0 tN.out;have K7:((n:Int) !=0)=true:=(by simp;omega);have bd:af (Except.error (x.a,n)=res):=aA;have dk:af (∀xN,ao w w (bY.alloc xN)∧(bY.alloc xN).heap[w.heap.size]?=some (.cells #[I pN,U x.ext,U x.first,aa T] 153)):=fun xN=>⟨cP.out.alloc cP.out.size _,aU Mf.out ((Below.refl _ _).alloc (bx _) _)⟩;unfold kS iX;clear l4 aA;go_upto_region 5 with fail;generalize IK:bY.alloc _=dt;have e4:af (ao w w dt∧an dt w.heap.size (#[I pN,U x.ext,U x.first,aa T]) 153):=(by rw[←IK];exact dk.out _);clear IK dk;obtain⟨aC,aE,fJ,y3⟩:=adZ e4.out.2;go_upto_region 6 with fail
   go_quiet (fail)
   go_wp2_with fail;go_ret3;rw[←bd.out];exact⟨e4.out.1.trans (Qc e4.out.1.size ⟨_,rfl⟩),by rw[←FR.out];rfl⟩
  |ok c=>
   obtain⟨dN,a7,rfl,gS,qh⟩:=hx;have wJ:=aq (gS.mono se.out);have nT:=aq qh;have bm:af (aq6 w bY.heap.size c dN a7 (bY.alloc (tE c 0 (ad dN c.b6.length a7) b3))):=⟨ga bY _,wJ.out.below ((Below.refl _ _).alloc (bx _) _),cP.out.alloc cP.out.size _⟩;unfold kS iX;unfold tE iX at bm;generalize pJ:bY.heap.size=dR at bm;clear gS qh;go_upto_region 5 with fail;generalize bY.alloc _=dt at bm⊢;clear pJ Mf cP wJ se;by_cases aT:l.length=0
   ·have JY:l=[]:=rQ aT;have bd:af (Except.ok [c]=res):=(by show _=_;rw[JY] at aA;exact aA);have ad4:¬(1:Int)<(l.length:Int)+1:=(by omega);have Dk:af (jJ w.heap.size (dt.alloc (ai (#[I 0,I c.k,I c.n,I c.m,U c.on,aa ⟨c.t.toArray⟩,aa ⟨c.x.toArray⟩,aa ⟨c.y.toArray⟩,aa ⟨c.i.toArray⟩,aa ⟨c.j.toArray⟩,ad dN c.b6.length a7,b3]) 104)) (ag dt.heap.size 0 1 1) [(0,c)]):=(by have h:=Vv (W:=dt) (0,c) (p:=dN) (q:=none) (k:=a7) (m:=0) bm.out.aZ.size bm.out.b6 (by rw[nT.out];exact fG.nil _ _ _);rw[nT.out] at h;exact h);obtain⟨⟨aN,aL,aI,c3,bJ,c5,b2,b',bX,bj,cu,dw⟩,_⟩:=dj bm.out.Fb;clear aA aT JY;go_wp2_with fail;go_ret3;rw[←bd.out];exact⟨bm.out.aZ.alloc bm.out.aZ.size _,_,rfl,Dk.out⟩
   ·obtain⟨jL,gQ,mB⟩:∃jL gQ,l=jL::gQ:=by
     cases l with
     |nil=>exact absurd rfl aT
     |cons a b=>exact⟨a,b,rfl⟩
    have bd:af (Except.error (jL.a,3)=res):=(by show _=_;rw[mB] at aA;exact aA);have ad4:(1:Int)<(l.length:Int)+1:=(by omega);have z0:=(bz.out.2 1 (by rw[eP];omega)).1;rw[←bm.out.aZ.cell (p:=⟨b,o+1 *4,none⟩) bz.out.1,show o+1 *4=o+4 by omega] at z0;simp only[mB,FK,Is] at z0;obtain⟨ad2,zT⟩:∃a:Int,(jL.a:Int)=a:=⟨_,rfl⟩;rw[zT] at z0;have yu:=aq zT;clear zT aA mB aT;go_upto_region 8 with fail
    go_quiet (fail)
    go_wp2_with fail;go_ret3;rw[←bd.out];exact⟨bm.out.aZ.trans (Qc bm.out.aZ.size ⟨_,rfl⟩),by rw[←yu.out];rfl⟩
theorem are{P:Program}{w v':_}{w':aeo}{base:Nat}{t ty e:aai}{i:TypeInfo}{z:ada}(bB:P.underlying t=some (.slice e))(hi:P.info? e=some i)(bn:i.zero=some z)
  {v:ada} {n:Nat} {xs:aev} (cI:World.ownsRow w base e i.size v n xs) {a:Addr} {c:Nat} {news:aev} (aA:news.length=1 *i.size) (AR:∀j u,news[j]?=some u→w.cell? (a.add j)=some u) (av:∀u∈news,u.oneCell'=true)
  (J8:n+1≤maxLen) (Hf:(n+1) *i.bytes≤140737488355328)
  (hr:(Builtin.append_ #[t,t] ty #[v,ad (some a) 1 c]).run P w=.ok v' w'):v'.ownBlock=v.ownBlock∨v'.ownBlock=some w.heap.size:=by
 have hs:n+1≤9223372036854775807:=by simp only[maxLen] at J8;omega
 rcases cI.2 with ⟨rfl,rfl⟩|⟨g,cap,cur,rfl,ad5,ba,JR,y1,gm,ayd⟩
 ·rw[run_append_nil (P:=P) w t ty e i z bB hi bn a 1 c news aA AR (by omega) (by omega) (by simp only[kr] at Hf;omega)] at hr;injection hr with a1 _;rw[←a1];exact .inr rfl
 ·by_cases ad6:n+1≤cap
  ·rw[run_append_room (P:=P) w t ty e i bB hi g n cap cur ba a 1 c news aA AR av ad6 (by rw[aA,gm,←Nat.add_mul];exact Nat.mul_le_mul_right _ ad6)] at hr;injection hr with a1 _;rw[←a1];exact .inl rfl
  ·rw[run_append_grow (P:=P) w t ty e i z bB hi bn (aj g 0) n cap xs cI.1 (cI.cells (g:=g) rfl) a 1 c news aA AR (by omega) (by omega) (growslice_fits (by omega) Hf)] at hr;injection hr with a1 _;rw[←a1];exact .inr rfl
theorem arf{P:Program}{w:aeo}{ops:Array Oper}{rest:List Oper}{o:Oper}{a:Act}{Q:Exit→Act→aeo→Prop}(arh:o.guard=none)(s x:Operand)(t:aai)
  (bl:o.op=.call {callee:=.builtin .append,args:= #[s,x],argTypes:= #[t,t]})
  (base:Nat) (e:aai) (i:TypeInfo) (z:ada) (size bytes:Nat) (bB:P.underlying t=some (.slice e)) (hi:P.info? e=some i) (bn:i.zero=some z)
  (ad7:i.size=size) (gb:i.bytes=bytes) (ari:z.cells.size=size) (gK:0<size)
  (v:ada) (n:Nat) (xs:aev) (hs:a.eval s=v) (cI:w.ownsRow base e size v n xs)
  (Vx:Addr) (m c:Nat) (hm:m=1) (news:aev) (hx:a.eval x=ad (some Vx) m c) (aA:news.length=m *size) (AR:∀j u,news[j]?=some u→w.cell? (Vx.add j)=some u) (av:∀u∈news,u.oneCell'=true)
  (J8:n+m≤maxLen) (Hf:(n+m) *bytes≤140737488355328) (O2:base≤w.heap.size)
  (h:∀v' w',w'.ownsRow base e size v' (n+m) (xs++news)→w.grownBy w' v.ownBlock→(v'.ownBlock=v.ownBlock∨v'.ownBlock=some w.heap.size)→wpList P ops Q rest (a.put o.dst v') w'):wpList P ops Q (o::rest) a w:=by
 obtain⟨v',w',hr,az,aF,_⟩:=run_append_own (P:=P) w base t o.type e i z size bytes bB hi bn ad7 gb ari gK v n xs cI Vx m c news aA AR av J8 Hf O2;subst ad7;subst gb;subst hm;have hw:=are (P:=P) bB hi bn cI aA AR av J8 Hf hr;refine wpList_plain arh fun _ hK=>?_;unfold Oper.wp execOp;simp only[bl,resolve,invoke,builtin,On,Sem.run_pure,Hd,List.map_toArray,oH,AS,hs,hx,hr];exact hK _ _ (h v' w' az aF hw)
def Mg(w:aeo)(b o:Nat)(c:C)(a:Int)(c7 bv:ada):Prop:=
 w.cell? ⟨b,o,none⟩=some (I a)∧ak w b (o+1) (I c.k)∧ak w b (o+2) (I c.n)∧ak w b (o+3) (I c.m)∧ak w b (o+4) (U c.on)∧ak w b (o+5) (aa ⟨c.t.toArray⟩)∧ak w b (o+6) (aa ⟨c.x.toArray⟩)∧ak w b (o+7) (aa ⟨c.y.toArray⟩)∧ak w b (o+8) (aa ⟨c.i.toArray⟩)∧ak w b (o+9) (aa ⟨c.j.toArray⟩)∧ak w b (o+10) c7∧ak w b (o+11) bv
theorem oy.get{l:List (Nat×C)}{xs:aev}(h:oy B w l xs):∀(i:Nat) (hi:i<l.length),∃p q k m,(∀j,j<12→xs[i *12+j]?=(iX l[i].2 (l[i].1:Int) (.slice p l[i].2.b6.length k) (.slice q l[i].2.blocks.length m))[j]?)∧eW B w p l[i].2.b6∧fG B w q l[i].2.blocks:=by
 induction h with
 |nil=>exact fun i hi=>absurd hi (nB _)
 |@cons x l p q k m xs a b _ cT=>
  intro i hi;cases i with
  |zero=>
   refine⟨p,q,k,m,fun j cr=>?_,a,b⟩;rw[UH (by show _<12;omega),DK,kr,xP];rfl
  |succ i=>
   obtain⟨p,q,k,m,av,az,aF⟩:=cT i (A9 hi);refine⟨p,q,k,m,fun j cr=>?_,az,aF⟩;rw[EI (by show 12≤_;omega),show (i+1) *12+j-_=i *12+j from by show (i+1) *12+j-12=_;omega];exact av j cr
def IL(B:Nat)(w:aeo)(p:Ja)(l:List (Nat×C)):Prop:=0<l.length→∃b o cur,p=some ⟨b,o,none⟩∧B≤b∧an w b cur 104∧∀(i:Nat) (hi:i<l.length),∃q r k m,(∀j,j<12→cur[o+i *12+j]?=(iX l[i].2 (l[i].1:Int) (.slice q l[i].2.b6.length k) (.slice r l[i].2.blocks.length m))[j]?)∧eW B w q l[i].2.b6∧fG B w r l[i].2.blocks
theorem Vy{l:List (Nat×C)}(h:jJ B w v l):∃p c,v=ad p l.length c∧IL B w p l:=by
 obtain⟨xs,hx,hr⟩:=h;rcases hx.2 with ⟨av,az⟩|⟨g,c,cur,av,az,aF,bk,b9,cW,eN⟩
 ·exact⟨none,0,by rw[av,az],fun aA=>absurd aA (by omega)⟩
 ·refine⟨_,c,av,fun aA=>⟨g,0,cur,rfl,az,aF,fun i hi=>?_⟩⟩;obtain⟨p,q,k,m,g1,g2,g3⟩:=hr.get i hi;refine⟨p,q,k,m,fun j cr=>?_,g2,g3⟩;rw[kr,←g1 j cr,←eN,Iy (by omega),xP]
theorem Mh{b o:Nat}{cur:ajv}{t:aai}{c:C}{a:Int}{c7 bv:ada}(h:an w b cur t)(hc:∀j,j<12→cur[o+j]?=(iX c a c7 bv)[j]?):Mg w b o c a c7 bv:=by
 have key:∀j,j<12→w.cell? ⟨b,o+j,none⟩=(iX c a c7 bv)[j]?:=fun j cr=>by rw[←hc j cr];simp[World.cell?,h]
 exact⟨key 0 (by decide),key 1 (by decide),key 2 (by decide),key 3 (by decide),key 4 (by decide),key 5 (by decide),key 6 (by decide),key 7 (by decide),key 8 (by decide),key 9 (by decide),key 10 (by decide),key 11 (by decide)⟩
def Bx(pe:ajv)(o:Nat)(l:List ea):Prop:=∀i (hi:i<l.length),pe[o+i *4]?=some (I (l[i].a:Int))∧pe[o+i *4+1]?=some (U l[i].ext)∧pe[o+i *4+2]?=some (U l[i].first)∧pe[o+i *4+3]?=some (aa ⟨l[i].t.toArray⟩)
theorem arj(l:List ea)(i:Nat)(hi:i<l.length):(rj l)[i *4]?=some (I (l[i].a:Int))∧(rj l)[i *4+1]?=some (U l[i].ext)∧(rj l)[i *4+2]?=some (U l[i].first)∧(rj l)[i *4+3]?=some (aa ⟨l[i].t.toArray⟩):=by
 induction l generalizing i with
 |nil=>exact absurd hi (nB _)
 |cons x l cT=>
  have e:rj (x::l)=[I (x.a:Int),U x.ext,U x.first,aa ⟨x.t.toArray⟩] ++rj l:=rfl;cases i with
  |zero=>rw[e];exact⟨rfl,rfl,rfl,rfl⟩
  |succ i=>
   obtain⟨aT,av,az,aF⟩:=cT i (A9 hi);rw[e];refine⟨?_,?_,?_,?_⟩
   ·rw[show (i+1) *4=i *4+1+1+1+1 by omega];exact aT
   ·rw[show (i+1) *4+1=(i *4+1)+1+1+1+1 by omega];exact av
   ·rw[show (i+1) *4+2=(i *4+2)+1+1+1+1 by omega];exact az
   ·rw[show (i+1) *4+3=(i *4+3)+1+1+1+1 by omega];exact aF
theorem ark(h:w.ownsRow B 153 4 v l.length (rj l)):∃p c g pe,v=ad p l.length c∧l.length≤c∧c≤maxLen∧(0<l.length→p=some ⟨g,0,none⟩∧an w g pe 153∧Bx pe 0 l):=by
 rcases h.2 with ⟨av,az⟩|⟨g,c,cur,av,az,aF,bk,b9,cW,eN⟩
 ·exact⟨none,0,0, #[],by rw[av,az],by omega,by decide,fun aA=>absurd aA (by omega)⟩
 ·refine⟨_,c,g,cur,av,bk,b9,fun aA=>⟨rfl,aF,fun i hi=>?_⟩⟩;have key:∀j,j<l.length *4→cur[j]?=(rj l)[j]?:=(fun j cr=>by rw[←eN,Iy cr,xP]);obtain⟨g0,g1,g2,g3⟩:=arj l i hi;rw[kr,key _ (by omega),key _ (by omega),key _ (by omega),key _ (by omega)];exact⟨g0,g1,g2,g3⟩
theorem Bx.arl{g o:Nat}{pe:ajv}{m:List ea}(h:Bx pe o l)(ba:an w g pe 153)(hm:m <+:l):Mc w (some (aj g o)) m:=by intro _;refine⟨g,o,rfl,(Array.getElem?_eq_some_iff.1 ba).1,fun i hi=>?_⟩;obtain⟨r,rfl⟩:=hm;obtain⟨aT,av,az,aF⟩:=h i (by rw[hl];omega);rw[N8 hi] at aT av az aF;simp only[World.cell?,ba];exact⟨aT,av,az,aF⟩
theorem Bx.drop{pe:ajv}{o k:Nat}{l:List ea}(h:Bx pe o l):Bx pe (o+k *4) (l.drop k):=by intro i hi;rw[gI] at hi;obtain⟨aT,av,az,aF⟩:=h (k+i) (by omega);rw[Sy,show o+k *4+i *4=o+(k+i) *4 by omega];exact⟨aT,av,az,aF⟩
theorem arn{s s':iy}{c:UInt8}(h:rK s c i=.ok s'):s'.words.length≤s.words.length+1∧∀M,(∀x∈s.words,x.t.length≤M)→s.text.length≤M→(∀x∈s'.words,x.t.length≤M+1)∧s'.text.length≤M+1:=by
 have same:∀{u:iy},(.ok u:Except Nat iy)=.ok s'→u.words=s.words→u.text.length≤s.text.length+1→s'.words.length≤s.words.length+1∧∀M,(∀x∈s.words,x.t.length≤M)→s.text.length≤M→(∀x∈s'.words,x.t.length≤M+1)∧s'.text.length≤M+1:=by intro u hu hw bB;injection hu with hu;subst hu;rw[hw];exact⟨nX _,fun M av az=>⟨fun x hx=>P' (av x hx),by omega⟩⟩
 have add:∀{u:iy},xj u c=.ok s'→u.words=s.words→u.text=s.text→s'.words.length≤s.words.length+1∧∀M,(∀x∈s.words,x.t.length≤M)→s.text.length≤M→(∀x∈s'.words,x.t.length≤M+1)∧s'.text.length≤M+1:=by
  intro u hu hw bB;unfold xj at hu;split at hu
  ·cases hu
  ·exact same hu hw (by show (u.text++[c]).length≤_;rw[bB];simp)
 unfold rK at h;split at h
 ·exact same h rfl (by omega)
 ·split at h
  ·cases h
  ·split at h
   ·unfold Gx at h;split at h
    ·cases h
    ·injection h with h;subst h;refine⟨by simp,fun M av az=>⟨fun x hx=>?_,by simp⟩⟩;rcases List.mem_append.1 hx with hx|hx
     ·exact P' (av x hx)
     ·rw[List.mem_singleton.1 hx];exact P' az
   ·split at h
    ·split at h
     ·cases h
     ·exact same h rfl (by show s.text.length≤_;omega)
    ·split at h
     ·split at h
      ·cases h
      ·exact add h rfl rfl
     ·exact add h rfl rfl
theorem ad8:∀{l:au} {k:Nat} {s s':iy},jl l k s=.ok s'→s'.words.length≤s.words.length+l.length∧∀M,(∀x∈s.words,x.t.length≤M)→s.text.length≤M→(∀x∈s'.words,x.t.length≤M+l.length)
 |[],k,s,s',h=>by injection h with h;subst h;exact⟨bx _,fun M av az=>av⟩
 |c::l,k,s,s',h=>by
  unfold jl at h;split at h
  ·cases h
  ·rename_i u hu;obtain⟨g1,g2⟩:=arn hu;obtain⟨a1,a6⟩:=ad8 h;refine⟨by rw[eP];omega,fun M av az=>?_⟩;obtain⟨f1,f2⟩:=g2 M av az;intro x hx;have:=a6 (M+1) f1 f2 x hx;rw[eP];omega
theorem aro(h:uf s=(ws,0,0)):ws.length≤1000000∧∀x∈ws,x.t.length≤1000000:=by
 unfold uf at h;split at h
 ·simp at h
 ·rename_i hs;split at h
  ·rename_i i e ba;simp only[fS] at h;rw[←h.1];exact⟨eE _,fun x hx=>absurd hx (by simp)⟩
  ·rename_i st ba;split at h
   ·simp at h
   ·simp only[fS] at h;obtain⟨a1,a6⟩:=ad8 ba;have ch:=a6 0 (fun x hx=>absurd hx (by simp[xi])) (bx _);rw[←h.1];have gw:st.words.length≤0+s.length:=a1;exact⟨by omega,fun x hx=>by have:=ch x hx;omega⟩
theorem arp(h:vR t=.error n):n≠0:=by
 have Mi:∀{t:au} {cs:List C} {n:Nat},qY t cs=.error n→n≠0:=by
  intro t cs n h;unfold qY at h;split at h
  ·cases h
  ·split at h
   ·cases h;decide
   ·cases h
 have Vz:∀{t:au} {m:Int} {n:Nat},uh t m=.error n→n≠0:=by
  intro t m n h;unfold uh at h;split at h
  ·cases h
  ·exact Mi h
 unfold vR at h
 repeat' split at h
 all_goals first|exact Vz h|exact Mi h|(cases h;decide)|cases h
theorem arq{l:List C}(h:vR t=.ok l):l.length≤2:=by
 have Mi:∀{t:au} {cs l:List C},qY t cs=.ok l→cs.length≤1→l.length≤2:=by
  intro t cs l h hc;unfold qY at h;split at h
  ·cases h;exact nX 1
  ·split at h
   ·cases h
   ·cases h;rw[hl];simp only[GC];omega
 have Vz:∀{t:au} {m:Int} {l:List C},uh t m=.ok l→l.length≤2:=by
  intro t m l h;unfold uh at h;split at h
  ·cases h;exact nX 1
  ·exact Mi h (bx _)
 unfold vR at h
 repeat' split at h
 all_goals first|exact Vz h|exact Mi h (by decide)|(cases h;exact nX 1)|cases h
theorem ars{w:ea}(h:xk w ws=.error (i,n)):n≠0:=by
 unfold xk at h;split at h
 ·split at h
  ·rename_i az;cases h;exact ad0 az
  ·split at h
   ·cases h
   ·cases h;decide
 ·split at h
  ·cases h;decide
  ·split at h;split at h
   ·rename_i aT;cases h;exact aT
   ·cases h
theorem art{w:ea}{l:List C}(h:xk w ws=.ok l):l.length≤2:=by
 unfold xk at h;split at h
 ·split at h
  ·cases h
  ·split at h
   ·cases h;exact nX 1
   ·cases h
 ·split at h
  ·cases h
  ·split at h;split at h
   ·cases h
   ·cases h;exact nX 1
theorem aru{w:ea}(h:vS w ws=.error (i,n)):n≠0:=by
 unfold vS at h;split at h
 ·exact ars h
 ·split at h
  ·rename_i az;cases h;exact arp az
  ·cases h
theorem arv{w:ea}{l:List C}(h:vS w ws=.ok l):l.length≤2:=by
 unfold vS at h;split at h
 ·exact art h
 ·split at h
  ·cases h
  ·rename_i az;cases h;exact arq az
theorem arw(l:List ea):l.takeWhile (fun x=>!x.first)=l.take (l.takeWhile fun x=>!x.first).length:=by
 induction l with
 |nil=>rfl
 |cons a l cT=>
  by_cases h:a.first=true
  ·rw[Iq (by simp[h])];rfl
  ·rw[Ir (by simp[h]),eP,List.take_succ_cons,←cT]
theorem arx(l:List ea):l.dropWhile (fun x=>!x.first)=l.drop (l.takeWhile fun x=>!x.first).length:=by
 induction l with
 |nil=>rfl
 |cons a l cT=>
  by_cases h:a.first=true
  ·rw[Iq (by simp[h]),List.dropWhile_cons_of_neg (by simp[h])];rfl
  ·rw[Ir (by simp[h]),List.dropWhile_cons_of_pos (by simp[h]),eP,Ap,←cT]
theorem ary{k:Nat}(ax:k<(l.takeWhile fun x=>!x.first).length):∃h:k<l.length,l[k].first=false:=by
 induction l generalizing k with
 |nil=>exact absurd ax (by simp)
 |cons a l cT=>
  by_cases h:a.first=true
  ·rw[Iq (by simp[h])] at ax;exact absurd ax (by simp)
  ·rw[Ir (by simp[h])] at ax;cases k with
   |zero=>exact⟨Eo _,by simpa using h⟩
   |succ k=>
    obtain⟨av,az⟩:=cT (A9 ax);exact⟨Nat.succ_lt_succ av,az⟩
theorem arz(h:(l.takeWhile fun x=>!x.first).length<l.length):l[(l.takeWhile fun x=>!x.first).length].first=true:=by
 induction l with
 |nil=>exact absurd h (by simp)
 |cons a l cT=>
  by_cases hf:a.first=true
  ·simp only[Iq (p:=fun x:ea=>!x.first) (a:=a) (l:=l) (by simp[hf]),rC,Is];exact hf
  ·simp only[Ir (p:=fun x:ea=>!x.first) (a:=a) (l:=l) (by simp[hf]),eP] at h⊢;exact cT (A9 h)
theorem arA(l:List ea):(l.takeWhile fun x=>!x.first).length≤l.length:=(adn _).length_le
def VA:Except (Nat×Nat) (List (Nat×C))→List (Nat×C)× Nat×Nat
 |.error (i,e)=>([],i,e)
 |.ok l=>(l,0,0)
theorem arB(f:Nat)(w:ea)(ws:List ea)(acc:List (Nat×C)):sU (f+1) (w::ws) acc=match vS w (ws.takeWhile fun x=>!x.first) with
 |.error e=>.error e
 |.ok l=>sU f (ws.dropWhile fun x=>!x.first) (acc++l.map fun c=>(w.a,c)):=rfl
theorem RB(f:Nat)(acc:List (Nat×C)):sU f [] acc=.ok acc:=by cases f<;>rfl
theorem arC(h:uf s=(ws,0,0)):j7 s=VA (sU ws.length ws []):=by unfold j7;rw[h];simp only[];rw[aR (fun h=>h rfl)];cases sU ws.length ws []<;>rfl
theorem arD{e:Nat}(h:uf s=(ws,i,e))(he:e≠0):j7 s=([],i,e):=by unfold j7;rw[h];simp only[];rw[a8 he]
end gT
namespace c4
open Go.RowKit dH
open bS (C eg)
open gT (kS iX IL Mg Mh eW fG)
theorem ad9{s:Nat}{u:Int}:∀{l:List Int} {i e:Nat},mP s u l i=.error e→e≠0
 |[],i,e,h=>by cases h
 |n::l,i,e,h=>by
  unfold mP at h;split at h
  ·cases h;decide
  ·split at h
   ·cases h;decide
   ·split at h
    ·cases h;decide
    ·split at h
     ·rename_i lh he;injection h with h;exact h ▸ ad9 he
     ·cases h
theorem aea:∀{l:List Int} {e:Nat},JM l=.error e→e≠0
 |[],e,h=>by cases h
 |n::l,e,h=>by
  unfold JM at h;split at h
  ·rename_i hn;injection h with h;exact h ▸ hn
  ·split at h
   ·rename_i lh he;injection h with h;exact h ▸ aea he
   ·cases h
theorem aeb{vars:List (Int×Int)}:∀{l:List (List (Int×Int))} {e:Nat},GG vars l=.error e→e≠0
 |[],e,h=>by cases h
 |a::l,e,h=>by
  unfold GG at h;split at h
  ·rename_i hn;injection h with h;exact h ▸ hn
  ·split at h
   ·rename_i lh he;injection h with h;exact h ▸ aeb he
   ·cases h
theorem Qe{u:Int}:∀{l:List eg} {vars:List (Int×Int)} {p:bc} {e:Nat},Ag u l vars p=.error e→e≠0
 |[],vars,p,e,h=>by cases h
 |b::l,vars,p,e,h=>by
  unfold Ag at h;split at h
  ·rename_i lh he;injection h with h;exact h ▸ aeb he
  ·split at h
   ·exact Qe h
   ·split at h
    ·split at h
     ·rename_i hn;injection h with h;exact h ▸ hn
     ·split at h
      ·cases h;decide
      ·exact Qe h
    ·exact Qe h
theorem arE{bF:au}{da:List Int}{u:Int}{ms:List jz}{e:Nat}(h:j9 bF da u ms=.error e):e≠0:=by
 unfold j9 at h;split at h
 ·simp only at h
  repeat' split at h
  all_goals first
   |(cases h;done)
   |(cases h;decide)
   |(rename_i he;cases h;exact ad9 he)
 ·unfold RO at h;split at h
  ·cases h;decide
  ·split at h
   ·rename_i lh he;injection h with h;exact h ▸ aea he
   ·split at h
    ·rename_i lh he;injection h with h;subst h;unfold Nt at he;split at he
     ·cases he;decide
     ·split at he
      ·rename_i a6 xw;injection he with he;exact he ▸ Qe xw
      ·cases he
    ·cases h
variable{p:cH}{c:C}
theorem arF(hn:c.n=3):C4 (q0 p c):=by
 intro k h;unfold q0 at h;split at h
 ·cases h;decide
 split at h
 ·cases h;decide
 split at h
 ·cases h;decide
 split at h
 ·cases h;decide
 split at h
 ·cases h;decide
 split at h
 ·rename_i e he;injection h with h;subst h;rw[aR (by omega),aR (by omega)] at he;exact acI _ he
 ·cases h
theorem arG:C4 (Ai p c):=by
 intro k h;unfold Ai at h;split at h
 ·split at h
  ·cases h;decide
  ·cases h
 split at h
 ·split at h
  ·cases h;decide
  ·cases h
 split at h
 ·split at h
  ·cases h;decide
  ·cases h
 unfold mO at h;split at h
 ·cases h;decide
 split at h
 ·rename_i e he;injection h with h;exact h ▸ arE he
 ·cases h
theorem arH(hr:p.region=false)(ax:yz c.k c.n):C4 (j' p c):=by
 intro k h;unfold j' at h;rw[hr] at h;by_cases aL:p.ended=true
 ·rw[a8 aL] at h;cases h;decide
 rw[aR aL,aR (by simp),aR (by omega)] at h;rcases ax with ax|ax|ax|ax
 ·rw[a8 ax] at h;exact arG _ h
 ·rw[aR (by omega),a8 (by omega)] at h;unfold DW at h;rw[aR (by omega),aR (by omega),a8 ax] at h;split at h
  ·cases h;decide
  ·cases h
 ·rw[aR (by omega),aR (by omega),aR (by omega),a8 ax.1] at h;exact arF ax.2 _ h
 ·rw[aR (by omega),aR (by omega),aR (by omega),aR (by omega),aR (by omega),aR (by omega),aR (by omega),aR (by omega),a8 ax] at h;split at h
  ·cases h;decide
  ·cases h
end c4
