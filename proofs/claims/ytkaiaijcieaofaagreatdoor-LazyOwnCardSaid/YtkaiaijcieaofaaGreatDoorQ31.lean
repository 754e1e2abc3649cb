/- Lemmas. -/
import Derived.Test.YtkaiaijcieaofaaGreatDoorQ30
set_option linter.all false
set_option maxRecDepth 100000
set_option maxHeartbeats 25600000
namespace Go.Proofs.YtkaiaijcieaofaaGreatDoor
abbrev Mz:=@Nat.succ_pos
abbrev F1:=@Nat.le_succ_of_le
abbrev Qp:=@Proofs.Tryz.underlying159
namespace gK
open Go.RowKit gI ga jz Mem hL cB
def MA(w:aeo)(p:Ja)(l:List eR):Prop:=0<l.length→∃b o,p=some ⟨b,o,none⟩∧b<w.heap.size∧∀i (hi:i<l.length),ak w b (o+i *4) (I (l[i].a:Int))∧ak w b (o+i *4+1) (U l[i].ext)∧ak w b (o+i *4+2) (U l[i].first)∧ak w b (o+i *4+3) (aa ⟨l[i].t.toArray⟩)
variable{w W:aeo}{l ws:List eR}
theorem MA.below{w':aeo}{p:Ja}(h:MA w p l)(ay:an w w w'):MA w' p l:=by intro az;obtain⟨b,o,hp,bm,aB⟩:=h az;refine⟨b,o,hp,hN bm ay.size,fun i hi=>?_⟩;obtain⟨aF,au,ax,aA⟩:=aB i hi;exact⟨(ay.cell (p:=⟨b,o+i *4,none⟩) bm).trans aF,(ay.cell (p:=⟨b,o+i *4+1,none⟩) bm).trans au,(ay.cell (p:=⟨b,o+i *4+2,none⟩) bm).trans ax,(ay.cell (p:=⟨b,o+i *4+3,none⟩) bm).trans aA⟩
def apX(res:Except (Nat×Nat) (List C))(w:aeo)(b3:Ending)(w':aeo):Prop:=Below w.heap.size w w'∧match res with
 |.ok cs=>∃v,b3=ab (.tuple #[v,I 0,I 0])∧jO w.heap.size w' v (rh cs)
 |.error x=>b3=ab (.tuple #[cA,I (x.1:Int),I (x.2:Int)])
variable{B b i n:Nat}
theorem V6(x:Nat×C){p q:Ja}{k m:Nat}(bz:B≤W.heap.size)(hn:dd B W p x.2.bX)(ay:fG B W q x.2.blocks):
  jO B (W.alloc (ai (iN x.2 (x.1:Int) (ad p x.2.bX.length k) (ad q x.2.blocks.length m)) 92)) (ag W.heap.size 0 1 1) [x]:=by
 have hK:kx (0:aai) W (W.alloc (ai (iN x.2 (x.1:Int) (ad p x.2.bX.length k) (ad q x.2.blocks.length m)) 92)):=.c4 ((Below.refl _ _).alloc (aP _) _);refine⟨_,⟨rfl,.inr ⟨W.heap.size,1,_,rfl,bz,dL W _,aP _,by unfold maxLen;omega,rfl,?_⟩⟩,.cons (k:=k) (m:=m) (hn.keep hK (by decide)) (ay.keep hK (by decide) (by decide) (by decide)) .nil⟩;rw[List.append_nil];rfl
def mg(l:List (List UInt8)):List Value:=l.map fun s=>aa ⟨s.toArray⟩
variable{v:ada}
theorem adJ{l:List (List UInt8)}(h:w.ownsRow B 9 1 v l.length (mg l)):∃p c,v=ad p l.length c∧Mx w p l:=by
 rcases h.2 with ⟨au,ax⟩|⟨g,c,cur,au,ax,aA,bb,bj,b8,cY⟩
 ·exact⟨none,0,by rw[au,ax],fun az=>absurd az (by omega)⟩
 ·subst au;refine⟨_,c,rfl,fun az=>⟨g,0,rfl,(Array.getElem?_eq_some_iff.1 aA).1,fun i hi=>?_⟩⟩;have e6:(mg l)[i]?=some (aa ⟨l[i].toArray⟩):=(by rw[mg,D7,iW hi];rfl);rw[jt,World.ownsRow.cellAt h i (by omega),e6]
theorem adK:∀{l:List (List UInt8)} {k:Nat} {acc:List dN} {i e:Nat},w8 l k acc=.error (i,e)→i<k+l.length
 |[],k,acc,i,e,h=>by cases h
 |s::l,k,acc,i,e,h=>by
  unfold w8 at h;split at h
  ·injection h with h;injection h with au _;rw[eT];omega
  ·have:=adK h;rw[eT];omega
theorem adL{l:List (List UInt8)}{b:List dN}{e:Nat}(h:yH l=(b,i,e))(he:e≠0):i<l.length:=by
 unfold yH at h;split at h
 ·rename_i bj;simp only[fg] at h;omega
 ·split at h
  ·rename_i ax;have:=adK ax;simp only[fg] at h;omega
  ·simp only[fg] at h;omega
theorem V7:(Tryz.prog.info? 9).map (fun i=>(i.zero,i.size,i.bytes))=some (some (aa ⟨#[]⟩),1,16):=by kernel_rfl
theorem adM{x:aeo}{v0 v1 v2 v3:ada}{t:aai}(h:al x b (#[v0,v1,v2,v3]) t):
 ak x b 0 v0∧ak x b 1 v1∧ak x b 2 v2∧ak x b 3 v3:=(hB h).1
structure apY(w:aeo)(b:Nat)(c:C)(p:Ja)(k:Nat)(W:aeo):Prop where
 x3:W.heap[b]?=some (tS c 0 (ad p c.bX.length k) cA)
 bX:dd w.heap.size W p c.bX
 aM:an w w W
variable{t s:ar}
theorem adN(h:te t=.error n):n≠0:=by
 unfold te at h;split at h
 ·cases h;decide
 ·split at h
  ·cases h
  ·split at h
   ·cases h;decide
   ·cases h
theorem Qq{w':aeo}(bz:B≤w.heap.size)(h:xJ w w'):Below B w w':=(o4 h).mono bz
theorem apZ{k:Nat}{z:Ua}(h:k<l.length)(e:(⟨l[k].t.toArray⟩:Ua)=z)(a1:W.ownsRow B 9 1 v n (mg ((l.take k).map eR.t)++[aa z])):W.ownsRow B 9 1 v n (mg ((l.take (k+1)).map eR.t)):=by
 have ax:mg ((l.take (k+1)).map eR.t)=mg ((l.take k).map eR.t)++[aa z]:=by rw[List.take_add_one,iW h,v7,←e];simp[mg]
 rw[ax];exact a1
theorem ap0{X bk:aeo}{xs:aev}{mu:Nat}{dU:ajv}(hx:W.ownsRow w.heap.size 9 1 v n xs)(bz:an w w W)(hw:al W mu dU 125)(b2:an W W X)(aI:X.grownBy bk v.ownBlock):
  an w w bk∧al bk mu dU 125:=by
 have qg:=fY hx b2;have ck:=bz.trans (b2.mono bz.size);have x4:=ba hw b2;exact⟨ck.grown aI ck.size (fun k aw=>(qg.lt _ aw).1),(aI.block _ (Array.getElem?_eq_some_iff.1 x4).1 (eN (nP qg x4 (by decide)))).trans x4⟩
theorem ap1(p:Ja)(cap:Nat)(x:eR)(l:List eR)(w:aeo)(fC:af (MA w p (x::l)))(hn:l.length≤999999)(J0:l.length+1≤cap)(tK:cap≤maxLen)(hs:af (∀y∈x::l,y.t.length≤1000000000))(res:Except (Nat×Nat) (List C))(hr:af (yI x l=res)):
  Calls Tryz.prog 53 #[ad p (l.length+1) cap] w (apX res w):=by
 obtain⟨b,o,rfl,bm,aB⟩:=fC.out (Mz _);have aF:=aB 0 (Mz _);rw[show o+0 *4=o by omega] at aF;obtain⟨eC,eu,eO,jm⟩:=aF;simp only[Mg] at eC eu eO jm;obtain⟨T,dm⟩:=kd x.t;have MB:(⟨x.t.toArray⟩:Ua)=T:=lD dm.symm;rw[MB] at jm;have uU:af (T.size≤1000000000):=by show _≤_;rw[←ch,dm];exact hs.out x (by simp)
 have bG:af (b<w.heap.size∧∀i (hi:i<(x::l).length),ak w b (o+i *4) (I ((x::l)[i].a:Int))∧ak w b (o+i *4+1) (U (x::l)[i].ext)∧ak w b (o+i *4+2) (U (x::l)[i].first)∧ak w b (o+i *4+3) (aa ⟨(x::l)[i].t.toArray⟩)):=⟨bm,aB⟩;have az:=hr.out;unfold yI at az;rw[←dm] at az;obtain⟨pY,Bs⟩:∃a:Int,(x.a:Int)=a:=⟨_,rfl⟩;rw[Bs] at eC;have Qr:=ao Bs;have awF:(0:Int)≤(l.length:Int):=by omega
 clear bm aB hr dm MB Bs;have dY:af ((w.alloc (ai (#[I pY,U x.ext,U x.first,aa T]) 125)).heap[w.heap.size]?=some (.cells #[I pY,U x.ext,U x.first,aa T] 125)∧an w w (w.alloc (ai (#[I pY,U x.ext,U x.first,aa T]) 125))):=⟨dL w _,(Below.refl _ _).alloc (aP _) _⟩;go_enter Tryz.func53,Tryz.ntmps53;go_upto_region 2 with fail;clear eC eu eO jm;generalize w.alloc (.cells #[I pY,U x.ext,U x.first,aa T] 125)=b5 at dY⊢;obtain⟨dH,c0,ee,y3⟩:=adM dY.out.1;by_cases IP:T.data.toList.take 2=[65,77]
 ·rw[aN (fun h=>h IP)] at az;obtain⟨R,hR⟩:=kd (T.data.toList.drop 2);have bw:af (T.data.toList=(⟨#[65,77]⟩:Ua).data.toList++R.data.toList):=(by show _=_;rw[hR];exact TZ (p:=[65,77]) IP);have uS:af (R.size≤maxLen):=(by show _≤_;have au:=fS List.length hR;rw[ch,e8,ch] at au;have:=uU.out;unfold maxLen;omega);rw[←hR] at az;obtain⟨mJ,kU⟩:=aq (td R.data.toList);have kq:=ao kU;rw[kU] at az;clear hR kU IP;go_wp2_with fail;with_reducible refine (qi _ _ _ bw _).mono ?_
  rintro e bt ⟨rfl,rfl⟩;rw[o0];go_wp2_with fail;with_reducible refine (aaA R uS.out mJ kq _).mono ?_
  rintro e bt ⟨rfl,rfl⟩;cases mJ with
  |false=>
   rw[aW rfl] at az;have bn:af (Except.error (x.a,3)=res):=az;clear az;go_upto_region 11 with fail
   go_quiet (fail)
   go_wp2_with fail;go_ret3;rw[←bn.out];exact⟨dY.out.2.trans (Qq dY.out.2.size ⟨_,rfl⟩),by rw[←Qr.out];rfl⟩
  |true=>
   rw[aN (by decide)] at az;obtain⟨⟨bs,i,e⟩,ay⟩:=aq (yH (l.map eR.t));have uT:=ao ay;rw[ay] at az;simp only[] at az;have o9:=ao az;clear ay az;have awG:(l.length:Int)+1≤(cap:Int):=(by omega);obtain oW|oW:cap=1∨1<cap:=by omega
   ·skip
    go_wp2_with fail;clear dH c0 ee y3
    go_loopw [10,55] (fun u vt wr=>∃(k:Nat),k≤l.length∧vt=I (k:Int)∧af (wr.ownsRow w.heap.size 9 1 u k (mg ((l.take k).map eR.t)))∧af (an w w wr)∧af (al wr w.heap.size (#[I pY,U x.ext,U x.first,aa T]) 125)) (fun _ vt _=>l.length -(intOf vt).toNat)
    case atStart=>exact⟨0,cO _,rfl,World.ownsRow_nil _ _ _ _,dY.out.2,dY.out.1⟩
    case round=>
     obtain⟨k,aw,rfl,cK,aH,Qs⟩:=hrel;obtain⟨eH,cv,rfl⟩:=iw cK.out;by_cases bm:k<l.length
     ·exfalso;omega
     ·obtain rfl:k=l.length:=(by omega);have sE:wr.ownsRow w.heap.size 9 1 (ad eH l.length cv) (l.map eR.t).length (mg (l.map eR.t)):=(by have h:=cK.out;rw[vI] at h;rw[jV];exact h);obtain⟨uB,bg,wR,En⟩:=adJ sE;rw[jV] at wR;injection wR with aY _ cV;subst aY;subst cV;have MC:=ao En;have qk:=adE eH cv (l.map eR.t) wr MC (by rw[jV];omega) (ao (by intro s k';obtain⟨y,hy,rfl⟩:=List.mem_map.1 k';exact hs.out y (zO _ hy))) bs i e uT;rw[jV] at qk;have Dl:=ao qk;clear sE En qk;go_wp2_with fail;with_reducible refine Dl.out.mono ?_
      rintro b3 br ⟨dX,q,ea,rfl,Dk⟩;have bT:=ao (aH.out.trans (dX.mono aH.out.size));have IM:=ao (Dk.mono aH.out.size);have ap2:=ao (ba Qs.out dX);clear dX Dk cK MC Dl;by_cases he:e=0
      ·subst he;have bn:af (Except.ok [{dD 19 with t:=R.data.toList,blocks:=bs}]=res):=(by have h:=o9.out;rw[aN (fun h=>h rfl)] at h;exact h);have zQ:=ao (V6 (W:=br) (0,{dD 19 with t:=R.data.toList,blocks:=bs}) (p:=none) (q:=q) (k:=0) (m:=ea) bT.out.size (dd.nil _ _ _) IM.out);clear o9;go_wp2_with fail;go_ret3;rw[←bn.out];exact⟨bT.out.alloc bT.out.size _,_,rfl,zQ.out⟩
      ·have Bg:((e:Int) !=0)=true:=by simp;omega
       have Hm:i<l.length:=by
        have h:=adL uT.out he
        rwa [jV] at h
       exfalso;omega
   ·have awH:(1:Int)<(cap:Int):=(by omega);go_wp2_with fail;clear dH c0 ee y3
    go_loopw [10,55] (fun u vt wr=>∃(k:Nat),k≤l.length∧vt=I (k:Int)∧af (wr.ownsRow w.heap.size 9 1 u k (mg ((l.take k).map eR.t)))∧af (an w w wr)∧af (al wr w.heap.size (#[I pY,U x.ext,U x.first,aa T]) 125)) (fun _ vt _=>l.length -(intOf vt).toNat)
    case atStart=>exact⟨0,cO _,rfl,World.ownsRow_nil _ _ _ _,dY.out.2,dY.out.1⟩
    case round=>
     obtain⟨k,aw,rfl,cK,aH,Qs⟩:=hrel;obtain⟨eH,cv,rfl⟩:=iw cK.out;by_cases bm:k<l.length
     ·have fD:(k:Int)<(l.length:Int):=(by omega);obtain⟨z0,z1,z2,z3⟩:=bG.out.2 (k+1) (by rw[eT];omega);rw[←aH.out.cell (p:=⟨b,o+(k+1) *4,none⟩) bG.out.1,show o+(k+1) *4=o+4+k *4 by omega] at z0;rw[←aH.out.cell (p:=⟨b,o+(k+1) *4+1,none⟩) bG.out.1,show o+(k+1) *4=o+4+k *4 by omega] at z1;rw[←aH.out.cell (p:=⟨b,o+(k+1) *4+2,none⟩) bG.out.1,show o+(k+1) *4=o+4+k *4 by omega] at z2;rw[←aH.out.cell (p:=⟨b,o+(k+1) *4+3,none⟩) bG.out.1,show o+(k+1) *4=o+4+k *4 by omega] at z3;simp only[Iz] at z0 z1 z2 z3;obtain⟨adO,zR⟩:∃a:Int,(l[k].a:Int)=a:=⟨_,rfl⟩;obtain⟨awI,Hs⟩:=aq (l[k].ext);obtain⟨Z',adP⟩:=aq (l[k].first);obtain⟨ap3,V8⟩:∃a:Ua,(⟨l[k].t.toArray⟩:Ua)=a:=⟨_,rfl⟩;rw[zR] at z0;rw[Hs] at z1;rw[adP] at z2;rw[V8] at z3;have ap4:=ao V8;clear zR Hs adP V8;obtain⟨i0,kf,cW,dv,dx⟩:=info_parts V7;have bL:=ao (And.intro kf (And.intro cW (And.intro dv dx)));clear kf cW dv dx;go_wp2_with (at_builtin;refine wz _ rfl _ _ _ rfl w.heap.size 9 i0 (aa ⟨#[]⟩) 1 16 Tryz.underlying66 bL.out.1 bL.out.2.1 bL.out.2.2.1 bL.out.2.2.2 rfl (by omega) (ad eH k cv) k (mg ((l.take k).map eR.t)) (by rfl) ((cK.out.alloc _).alloc _) (aj (wr.heap.size+1) 0) 1 1 [aa ap3] (by rfl) rfl (jx (Qe wr _ _)) (by simp[Value.oneCell']) (by unfold maxLen;omega) (by omega) (by have:=aH.out.size;simp<;>omega) ?_;intro v' w' gr h9 om;obtain⟨mG,k7,rfl,_,_⟩:=gr.form (by omega);have tr:=ao (apZ bm ap4.out gr);have eW:=ao (ap0 cK.out aH.out Qs.out (((Below.refl _ _).alloc (aP _) _).alloc (by simp) _) h9);clear gr h9 om);clear z0 z1 z2 z3;go_round
      case rel=>exact⟨k+1,by omega,by go_num,tr,eW.out.1,eW.out.2⟩
      case measure=>simp[intOf];omega
     ·obtain rfl:k=l.length:=(by omega);have sE:wr.ownsRow w.heap.size 9 1 (ad eH l.length cv) (l.map eR.t).length (mg (l.map eR.t)):=(by have h:=cK.out;rw[vI] at h;rw[jV];exact h);obtain⟨uB,bg,wR,En⟩:=adJ sE;rw[jV] at wR;injection wR with aY _ cV;subst aY;subst cV;have MC:=ao En;have qk:=adE eH cv (l.map eR.t) wr MC (by rw[jV];omega) (ao (by intro s k';obtain⟨y,hy,rfl⟩:=List.mem_map.1 k';exact hs.out y (zO _ hy))) bs i e uT;rw[jV] at qk;have Dl:=ao qk;clear sE En qk;go_wp2_with fail;with_reducible refine Dl.out.mono ?_
      rintro b3 br ⟨dX,q,ea,rfl,Dk⟩;have bT:=ao (aH.out.trans (dX.mono aH.out.size));have IM:=ao (Dk.mono aH.out.size);have ap2:=ao (ba Qs.out dX);clear dX Dk cK MC Dl;by_cases he:e=0
      ·subst he;have bn:af (Except.ok [{dD 19 with t:=R.data.toList,blocks:=bs}]=res):=(by have h:=o9.out;rw[aN (fun h=>h rfl)] at h;exact h);have zQ:=ao (V6 (W:=br) (0,{dD 19 with t:=R.data.toList,blocks:=bs}) (p:=none) (q:=q) (k:=0) (m:=ea) bT.out.size (dd.nil _ _ _) IM.out);clear o9;go_wp2_with fail;go_ret3;rw[←bn.out];exact⟨bT.out.alloc bT.out.size _,_,rfl,zQ.out⟩
      ·have Bg:((e:Int) !=0)=true:=by simp;omega
       have Hm:i<l.length:=by
        have h:=adL uT.out he
        rwa [jV] at h
       have bn:af (Except.error (l[i].a,e)=res):=(by have h:=o9.out;rw[aW he,D7,iW Hm] at h;exact h);have z0:=(bG.out.2 (i+1) (by rw[eT];omega)).1;rw[←bT.out.cell (p:=⟨b,o+(i+1) *4,none⟩) bG.out.1] at z0;simp only[Iz] at z0;obtain⟨adO,zR⟩:∃a:Int,(l[i].a:Int)=a:=⟨_,rfl⟩;rw[zR] at z0;have yk:=ao zR;have ap5:(1:Int)+(i:Int)=((i+1:Nat):Int):=(by omega);have oq:(i:Int)<(l.length:Int):=(by omega);have abi:((i+1:Nat):Int)<(l.length:Int)+1:=(by omega);clear o9 he zR;go_upto_region 20 with fail
       go_quiet (fail)
       go_wp2_with fail;go_ret3;rw[←bn.out];exact⟨bT.out.trans (Qq bT.out.size ⟨_,rfl⟩),by rw[←yk.out];rfl⟩
 ·rw[aW IP] at az;have bw:af (∀r,T.data.toList≠(⟨#[65,77]⟩:Ua).data.toList++r):=T0 (p:=[65,77]) IP;obtain⟨dI,gY⟩:=aq (te T.data.toList);have oG:=ao gY;rw[gY] at az;clear gY IP;go_wp2_with fail;with_reducible refine (CD _ _ bw _).mono ?_
  rintro e bt ⟨rfl,rfl⟩;go_wp2_with fail;with_reducible refine (ao3 T uU.out dI oG _).mono ?_
  rintro e bt ⟨ck,hx⟩;have dy:=ao (dY.out.2.trans (ck.mono dY.out.2.size));have Hp:=ao (ba dY.out.1 ck);have oZ:=ao dY.out.2.size;clear ck dH c0 ee y3 dY;cases dI with
  |error n=>
   obtain rfl:e=ab (.tuple #[iO cB.aV 0 cA cA,I (n:Int)]):=hx;have jf:n≠0:=adN oG.out;have TY:((n:Int) !=0)=true:=(by simp;omega);have bn:af (Except.error (x.a,n)=res):=az;have dO:af (∀yW,an w w (bt.alloc yW)∧(bt.alloc yW).heap[w.heap.size]?=some (.cells #[I pY,U x.ext,U x.first,aa T] 125)):=fun yW=>⟨dy.out.alloc dy.out.size _,ba Hp.out ((Below.refl _ _).alloc (aP _) _)⟩;unfold iO iN;clear jf az;go_upto_region 5 with fail;generalize adQ:bt.alloc _=dZ;have iJ:af (an w w dZ∧al dZ w.heap.size (#[I pY,U x.ext,U x.first,aa T]) 125):=(by rw[←adQ];exact dO.out _);clear adQ dO;obtain⟨dH,c0,ee,y3⟩:=adM iJ.out.2;go_upto_region 6 with fail
   go_quiet (fail)
   go_wp2_with fail;go_ret3;rw[←bn.out];exact⟨iJ.out.1.trans (Qq iJ.out.1.size ⟨_,rfl⟩),by rw[←Qr.out];rfl⟩
  |ok c=>
   obtain⟨df,bM,rfl,h3,mc⟩:=hx;have lb:=ao (h3.mono oZ.out);have IF:=ao mc;have cc:af (apY w bt.heap.size c df bM (bt.alloc (tS c 0 (ad df c.bX.length bM) cA))):=⟨dL bt _,lb.out.below ((Below.refl _ _).alloc (aP _) _),dy.out.alloc dy.out.size _⟩;unfold iO iN;unfold tS iN at cc;generalize qk:bt.heap.size=vy at cc;clear h3 mc;go_upto_region 5 with fail;generalize bt.alloc _=dZ at cc⊢;clear qk Hp dy lb oZ;by_cases aF:l.length=0
   ·have NH:l=[]:=lP aF;have bn:af (Except.ok [c]=res):=(by show _=_;rw[NH] at az;exact az);have adR:¬(1:Int)<(l.length:Int)+1:=(by omega);have zQ:af (jO w.heap.size (dZ.alloc (ai (#[I 0,I c.k,I c.n,I c.m,U c.on,aa ⟨c.t.toArray⟩,aa ⟨c.x.toArray⟩,aa ⟨c.y.toArray⟩,aa ⟨c.i.toArray⟩,aa ⟨c.j.toArray⟩,ad df c.bX.length bM,cA]) 92)) (ag dZ.heap.size 0 1 1) [(0,c)]):=(by have h:=V6 (W:=dZ) (0,c) (p:=df) (q:=none) (k:=bM) (m:=0) cc.out.aM.size cc.out.bX (by rw[IF.out];exact fG.nil _ _ _);rw[IF.out] at h;exact h);obtain⟨⟨aV,aT,c2,c3,cD,c5,cX,c7,dj,bB,di,dE⟩,_⟩:=fc cc.out.x3;clear az aF NH;go_wp2_with fail;go_ret3;rw[←bn.out];exact⟨cc.out.aM.alloc cc.out.aM.size _,_,rfl,zQ.out⟩
   ·obtain⟨eO,gE,hc⟩:∃eO gE,l=eO::gE:=by
     cases l with
     |nil=>exact absurd rfl aF
     |cons a b=>exact⟨a,b,rfl⟩
    have bn:af (Except.error (eO.a,3)=res):=(by show _=_;rw[hc] at az;exact az);have adR:(1:Int)<(l.length:Int)+1:=(by omega);have z0:=(bG.out.2 1 (by rw[eT];omega)).1;rw[←cc.out.aM.cell (p:=⟨b,o+1 *4,none⟩) bG.out.1,show o+1 *4=o+4 by omega] at z0;simp only[hc,Iz,Mg] at z0;obtain⟨adO,zR⟩:∃a:Int,(eO.a:Int)=a:=⟨_,rfl⟩;rw[zR] at z0;have yk:=ao zR;clear zR az hc aF;go_upto_region 8 with fail
    go_quiet (fail)
    go_wp2_with fail;go_ret3;rw[←bn.out];exact⟨cc.out.aM.trans (Qq cc.out.aM.size ⟨_,rfl⟩),by rw[←yk.out];rfl⟩
theorem ap6{P:Program}{w v':_}{w':aeo}{base:Nat}{t ty e:aai}{i:TypeInfo}{z:ada}(bc:P.underlying t=some (.slice e))(hi:P.info? e=some i)(bP:i.zero=some z)
  {v:ada} {n:Nat} {xs:aev} (ct:World.ownsRow w base e i.size v n xs) {a:Addr} {c:Nat} {news:aev} (az:news.length=1 *i.size) (xx:∀j u,news[j]?=some u→w.cell? (a.add j)=some u) (au:∀u∈news,u.oneCell'=true)
  (Ef:n+1≤maxLen) (BV:(n+1) *i.bytes≤140737488355328)
  (hr:(Builtin.append_ #[t,t] ty #[v,ad (some a) 1 c]).run P w=.ok v' w'):v'.ownBlock=v.ownBlock∨v'.ownBlock=some w.heap.size:=by
 have hs:n+1≤9223372036854775807:=by simp only[maxLen] at Ef;omega
 rcases ct.2 with ⟨rfl,rfl⟩|⟨g,cap,cur,rfl,TB,aI,y5,nO,eD,Hz⟩
 ·rw[run_append_nil (P:=P) w t ty e i z bc hi bP a 1 c news az xx (by omega) (by omega) (by simp only[jt] at BV;omega)] at hr;injection hr with aY _;rw[←aY];exact .inr rfl
 ·by_cases adS:n+1≤cap
  ·rw[run_append_room (P:=P) w t ty e i bc hi g n cap cur aI a 1 c news az xx au adS (by rw[az,eD,←Nat.add_mul];exact Ul _ adS)] at hr;injection hr with aY _;rw[←aY];exact .inl rfl
  ·rw[run_append_grow (P:=P) w t ty e i z bc hi bP (aj g 0) n cap xs ct.1 (ct.cells (g:=g) rfl) a 1 c news az xx (by omega) (by omega) (growslice_fits (by omega) BV)] at hr;injection hr with aY _;rw[←aY];exact .inr rfl
theorem ap7{P:Program}{w:aeo}{ops:Array Oper}{rest:List Oper}{o:Oper}{a:Act}{Q:Exit→Act→aeo→Prop}(BY:o.guard=none)(s x:Operand)(t:aai)
  (a1:o.op=.call {callee:=.builtin .append,args:= #[s,x],argTypes:= #[t,t]})
  (base:Nat) (e:aai) (i:TypeInfo) (z:ada) (size bytes:Nat) (bc:P.underlying t=some (.slice e)) (hi:P.info? e=some i) (bP:i.zero=some z)
  (Qt:i.size=size) (fj:i.bytes=bytes) (V9:z.cells.size=size) (fw:0<size)
  (v:ada) (n:Nat) (xs:aev) (hs:a.eval s=v) (ct:w.ownsRow base e size v n xs)
  (rV:Addr) (m c:Nat) (hm:m=1) (news:aev) (hx:a.eval x=ad (some rV) m c) (az:news.length=m *size) (xx:∀j u,news[j]?=some u→w.cell? (rV.add j)=some u) (au:∀u∈news,u.oneCell'=true)
  (Ef:n+m≤maxLen) (BV:(n+m) *bytes≤140737488355328) (G9:base≤w.heap.size)
  (h:∀v' w',w'.ownsRow base e size v' (n+m) (xs++news)→w.grownBy w' v.ownBlock→(v'.ownBlock=v.ownBlock∨v'.ownBlock=some w.heap.size)→wpList P ops Q rest (a.put o.dst v') w'):wpList P ops Q (o::rest) a w:=by
 obtain⟨v',w',hr,ax,aA,_⟩:=run_append_own (P:=P) w base t o.type e i z size bytes bc hi bP Qt fj V9 fw v n xs ct rV m c news az xx au Ef BV G9;subst Qt;subst fj;subst hm;have hw:=ap6 (P:=P) bc hi bP ct az xx au Ef BV hr;refine wpList_plain BY fun _ hK=>?_;unfold Oper.wp execOp;simp only[a1,resolve,invoke,builtin,GI,JC,Ak,Sj,nx,nF,hs,hx,hr];exact hK _ _ (h v' w' ax aA hw)
def Qu(w:aeo)(b o:Nat)(c:C)(a:Int)(bF bv:ada):Prop:=
 w.cell? ⟨b,o,none⟩=some (I a)∧ak w b (o+1) (I c.k)∧ak w b (o+2) (I c.n)∧ak w b (o+3) (I c.m)∧ak w b (o+4) (U c.on)∧ak w b (o+5) (aa ⟨c.t.toArray⟩)∧ak w b (o+6) (aa ⟨c.x.toArray⟩)∧ak w b (o+7) (aa ⟨c.y.toArray⟩)∧ak w b (o+8) (aa ⟨c.i.toArray⟩)∧ak w b (o+9) (aa ⟨c.j.toArray⟩)∧ak w b (o+10) bF∧ak w b (o+11) bv
theorem iM.get{l:List (Nat×C)}{xs:aev}(h:iM B w l xs):∀(i:Nat) (hi:i<l.length),∃p q k m,(∀j,j<12→xs[i *12+j]?=(iN l[i].2 (l[i].1:Int) (.slice p l[i].2.bX.length k) (.slice q l[i].2.blocks.length m))[j]?)∧dd B w p l[i].2.bX∧fG B w q l[i].2.blocks:=by
 induction h with
 |nil=>exact fun i hi=>absurd hi (lS _)
 |@cons x l p q k m xs a b _ cU=>
  intro i hi;cases i with
  |zero=>
   refine⟨p,q,k,m,fun j b6=>?_,a,b⟩;rw[Ey (by show _<12;omega),G',jt,yO];rfl
  |succ i=>
   obtain⟨p,q,k,m,au,ax,aA⟩:=cU i (A0 hi);refine⟨p,q,k,m,fun j b6=>?_,ax,aA⟩;rw[xz (by show 12≤_;omega),show (i+1) *12+j-_=i *12+j from by show (i+1) *12+j-12=_;omega];exact au j b6
def Dm(B:Nat)(w:aeo)(p:Ja)(l:List (Nat×C)):Prop:=0<l.length→∃b o cur,p=some ⟨b,o,none⟩∧B≤b∧al w b cur 92∧∀(i:Nat) (hi:i<l.length),∃q r k m,(∀j,j<12→cur[o+i *12+j]?=(iN l[i].2 (l[i].1:Int) (.slice q l[i].2.bX.length k) (.slice r l[i].2.blocks.length m))[j]?)∧dd B w q l[i].2.bX∧fG B w r l[i].2.blocks
theorem V'{l:List (Nat×C)}(h:jO B w v l):∃p c,v=ad p l.length c∧Dm B w p l:=by
 obtain⟨xs,hx,hr⟩:=h;rcases hx.2 with ⟨au,ax⟩|⟨g,c,cur,au,ax,aA,bb,bj,b8,cY⟩
 ·exact⟨none,0,by rw[au,ax],fun az=>absurd az (by omega)⟩
 ·refine⟨_,c,au,fun az=>⟨g,0,cur,rfl,ax,aA,fun i hi=>?_⟩⟩;obtain⟨p,q,k,m,g1,g2,g3⟩:=hr.get i hi;refine⟨p,q,k,m,fun j b6=>?_,g2,g3⟩;rw[jt,←g1 j b6,←cY,FU (by omega),yO]
theorem Qv{o:Nat}{cur:ajv}{t:aai}{c:C}{a:Int}{bF bv:ada}(h:al w b cur t)(aB:∀j,j<12→cur[o+j]?=(iN c a bF bv)[j]?):Qu w b o c a bF bv:=by
 have key:∀j,j<12→w.cell? ⟨b,o+j,none⟩=(iN c a bF bv)[j]?:=fun j b6=>by rw[←aB j b6];simp[World.cell?,h]
 exact⟨key 0 (by decide),key 1 (by decide),key 2 (by decide),key 3 (by decide),key 4 (by decide),key 5 (by decide),key 6 (by decide),key 7 (by decide),key 8 (by decide),key 9 (by decide),key 10 (by decide),key 11 (by decide)⟩
def Bt(pe:ajv)(o:Nat)(l:List eR):Prop:=∀i (hi:i<l.length),pe[o+i *4]?=some (I (l[i].a:Int))∧pe[o+i *4+1]?=some (U l[i].ext)∧pe[o+i *4+2]?=some (U l[i].first)∧pe[o+i *4+3]?=some (aa ⟨l[i].t.toArray⟩)
theorem ap8(l:List eR)(i:Nat)(hi:i<l.length):(rI l)[i *4]?=some (I (l[i].a:Int))∧(rI l)[i *4+1]?=some (U l[i].ext)∧(rI l)[i *4+2]?=some (U l[i].first)∧(rI l)[i *4+3]?=some (aa ⟨l[i].t.toArray⟩):=by
 induction l generalizing i with
 |nil=>exact absurd hi (lS _)
 |cons x l cU=>
  have e:rI (x::l)=[I (x.a:Int),U x.ext,U x.first,aa ⟨x.t.toArray⟩] ++rI l:=rfl;cases i with
  |zero=>rw[e];exact⟨rfl,rfl,rfl,rfl⟩
  |succ i=>
   obtain⟨aF,au,ax,aA⟩:=cU i (A0 hi);rw[e];refine⟨?_,?_,?_,?_⟩
   ·rw[show (i+1) *4=i *4+1+1+1+1 by omega];exact aF
   ·rw[show (i+1) *4+1=(i *4+1)+1+1+1+1 by omega];exact au
   ·rw[show (i+1) *4+2=(i *4+2)+1+1+1+1 by omega];exact ax
   ·rw[show (i+1) *4+3=(i *4+3)+1+1+1+1 by omega];exact aA
theorem ap9(h:w.ownsRow B 125 4 v l.length (rI l)):∃p c g pe,v=ad p l.length c∧l.length≤c∧c≤maxLen∧(0<l.length→p=some ⟨g,0,none⟩∧al w g pe 125∧Bt pe 0 l):=by
 rcases h.2 with ⟨au,ax⟩|⟨g,c,cur,au,ax,aA,bb,bj,b8,cY⟩
 ·exact⟨none,0,0, #[],by rw[au,ax],by omega,by decide,fun az=>absurd az (by omega)⟩
 ·refine⟨_,c,g,cur,au,bb,bj,fun az=>⟨rfl,aA,fun i hi=>?_⟩⟩;have key:∀j,j<l.length *4→cur[j]?=(rI l)[j]?:=(fun j b6=>by rw[←cY,FU b6,yO]);obtain⟨g0,g1,g2,g3⟩:=ap8 l i hi;rw[jt,key _ (by omega),key _ (by omega),key _ (by omega),key _ (by omega)];exact⟨g0,g1,g2,g3⟩
theorem Bt.aqa{g o:Nat}{pe:ajv}{m:List eR}(h:Bt pe o l)(aI:al w g pe 125)(hm:m <+:l):MA w (some (aj g o)) m:=by intro _;refine⟨g,o,rfl,(Array.getElem?_eq_some_iff.1 aI).1,fun i hi=>?_⟩;obtain⟨r,rfl⟩:=hm;obtain⟨aF,au,ax,aA⟩:=h i (by rw[fH];omega);rw[Ez hi] at aF au ax aA;simp only[World.cell?,aI];exact⟨aF,au,ax,aA⟩
theorem Bt.drop{pe:ajv}{o k:Nat}{l:List eR}(h:Bt pe o l):Bt pe (o+k *4) (l.drop k):=by intro i hi;rw[e8] at hi;obtain⟨aF,au,ax,aA⟩:=h (k+i) (by omega);rw[T5,show o+k *4+i *4=o+(k+i) *4 by omega];exact⟨aF,au,ax,aA⟩
theorem aqb{s s':je}{c:UInt8}(h:w6 s c i=.ok s'):s'.words.length≤s.words.length+1∧∀M,(∀x∈s.words,x.t.length≤M)→s.text.length≤M→(∀x∈s'.words,x.t.length≤M+1)∧s'.text.length≤M+1:=by
 have same:∀{u:je},(.ok u:Except Nat je)=.ok s'→u.words=s.words→u.text.length≤s.text.length+1→s'.words.length≤s.words.length+1∧∀M,(∀x∈s.words,x.t.length≤M)→s.text.length≤M→(∀x∈s'.words,x.t.length≤M+1)∧s'.text.length≤M+1:=by intro u hu hw bc;injection hu with hu;subst hu;rw[hw];exact⟨lO _,fun M au ax=>⟨fun x hx=>F1 (au x hx),by omega⟩⟩
 have add:∀{u:je},DV u c=.ok s'→u.words=s.words→u.text=s.text→s'.words.length≤s.words.length+1∧∀M,(∀x∈s.words,x.t.length≤M)→s.text.length≤M→(∀x∈s'.words,x.t.length≤M+1)∧s'.text.length≤M+1:=by
  intro u hu hw bc;unfold DV at hu;split at hu
  ·cases hu
  ·exact same hu hw (by show (u.text++[c]).length≤_;rw[bc];simp)
 unfold w6 at h;split at h
 ·exact same h rfl (by omega)
 ·split at h
  ·cases h
  ·split at h
   ·unfold Jx at h;split at h
    ·cases h
    ·injection h with h;subst h;refine⟨by simp,fun M au ax=>⟨fun x hx=>?_,by simp⟩⟩;rcases List.mem_append.1 hx with hx|hx
     ·exact F1 (au x hx)
     ·rw[List.mem_singleton.1 hx];exact F1 ax
   ·split at h
    ·split at h
     ·cases h
     ·exact same h rfl (by show s.text.length≤_;omega)
    ·split at h
     ·split at h
      ·cases h
      ·exact add h rfl rfl
     ·exact add h rfl rfl
theorem Wa:∀{l:ar} {k:Nat} {s s':je},nz l k s=.ok s'→s'.words.length≤s.words.length+l.length∧∀M,(∀x∈s.words,x.t.length≤M)→s.text.length≤M→(∀x∈s'.words,x.t.length≤M+l.length)
 |[],k,s,s',h=>by injection h with h;subst h;exact⟨aP _,fun M au ax=>au⟩
 |c::l,k,s,s',h=>by
  unfold nz at h;split at h
  ·cases h
  ·rename_i u hu;obtain⟨g1,g2⟩:=aqb hu;obtain⟨aY,a6⟩:=Wa h;refine⟨by rw[eT];omega,fun M au ax=>?_⟩;obtain⟨f1,f2⟩:=g2 M au ax;intro x hx;have:=a6 (M+1) f1 f2 x hx;rw[eT];omega
theorem adU(h:ta s=(ws,0,0)):ws.length≤1000000∧∀x∈ws,x.t.length≤1000000:=by
 unfold ta at h;split at h
 ·simp at h
 ·rename_i hs;split at h
  ·rename_i i e aI;simp only[fg] at h;rw[←h.1];exact⟨cO _,fun x hx=>absurd hx (by simp)⟩
  ·rename_i st aI;split at h
   ·simp at h
   ·simp only[fg] at h;obtain⟨aY,a6⟩:=Wa aI;have cV:=a6 0 (fun x hx=>absurd hx (by simp[w5])) (aP _);rw[←h.1];have iI:st.words.length≤0+s.length:=aY;exact⟨by omega,fun x hx=>by have:=cV x hx;omega⟩
theorem aqc(h:vQ t=.error n):n≠0:=by
 have yn:∀{t:ar} {cs:List C} {n:Nat},pr t cs=.error n→n≠0:=by
  intro t cs n h;unfold pr at h;split at h
  ·cases h
  ·split at h
   ·cases h;decide
   ·cases h
 have zv:∀{t:ar} {m:Int} {n:Nat},qw t m=.error n→n≠0:=by
  intro t m n h;unfold qw at h;split at h
  ·cases h
  ·exact yn h
 unfold vQ at h
 repeat' split at h
 all_goals first|exact zv h|exact yn h|(cases h;decide)|cases h
theorem aqd{l:List C}(h:vQ t=.ok l):l.length≤2:=by
 have yn:∀{t:ar} {cs l:List C},pr t cs=.ok l→cs.length≤1→l.length≤2:=by
  intro t cs l h aB;unfold pr at h;split at h
  ·cases h;exact lO 1
  ·split at h
   ·cases h
   ·cases h;rw[fH];simp only[Bm];omega
 have zv:∀{t:ar} {m:Int} {l:List C},qw t m=.ok l→l.length≤2:=by
  intro t m l h;unfold qw at h;split at h
  ·cases h;exact lO 1
  ·exact yn h (aP _)
 unfold vQ at h
 repeat' split at h
 all_goals first|exact zv h|exact yn h (by decide)|(cases h;exact lO 1)|cases h
theorem aqe{w:eR}(h:yI w ws=.error (i,n)):n≠0:=by
 unfold yI at h;split at h
 ·split at h
  ·rename_i ax;cases h;exact adN ax
  ·split at h
   ·cases h
   ·cases h;decide
 ·split at h
  ·cases h;decide
  ·split at h;split at h
   ·rename_i aF;cases h;exact aF
   ·cases h
theorem aqf{w:eR}{l:List C}(h:yI w ws=.ok l):l.length≤2:=by
 unfold yI at h;split at h
 ·split at h
  ·cases h
  ·split at h
   ·cases h;exact lO 1
   ·cases h
 ·split at h
  ·cases h
  ·split at h;split at h
   ·cases h
   ·cases h;exact lO 1
theorem aqg{w:eR}(h:r4 w ws=.error (i,n)):n≠0:=by
 unfold r4 at h;split at h
 ·exact aqe h
 ·split at h
  ·rename_i ax;cases h;exact aqc ax
  ·cases h
theorem adV{w:eR}{l:List C}(h:r4 w ws=.ok l):l.length≤2:=by
 unfold r4 at h;split at h
 ·exact aqf h
 ·split at h
  ·cases h
  ·rename_i ax;cases h;exact aqd ax
theorem aqh(l:List eR):l.takeWhile (fun x=>!x.first)=l.take (l.takeWhile fun x=>!x.first).length:=by
 induction l with
 |nil=>rfl
 |cons a l cU=>
  by_cases h:a.first=true
  ·rw[Ix (by simp[h])];rfl
  ·rw[Iy (by simp[h]),eT,List.take_succ_cons,←cU]
theorem aqi(l:List eR):l.dropWhile (fun x=>!x.first)=l.drop (l.takeWhile fun x=>!x.first).length:=by
 induction l with
 |nil=>rfl
 |cons a l cU=>
  by_cases h:a.first=true
  ·rw[Ix (by simp[h]),List.dropWhile_cons_of_neg (by simp[h])];rfl
  ·rw[Iy (by simp[h]),List.dropWhile_cons_of_pos (by simp[h]),eT,Ce,←cU]
theorem aqj{k:Nat}(aw:k<(l.takeWhile fun x=>!x.first).length):∃h:k<l.length,l[k].first=false:=by
 induction l generalizing k with
 |nil=>exact absurd aw (by simp)
 |cons a l cU=>
  by_cases h:a.first=true
  ·rw[Ix (by simp[h])] at aw;exact absurd aw (by simp)
  ·rw[Iy (by simp[h])] at aw;cases k with
   |zero=>exact⟨Mz _,by simpa using h⟩
   |succ k=>
    obtain⟨au,ax⟩:=cU (A0 aw);exact⟨Nat.succ_lt_succ au,ax⟩
theorem aqk(h:(l.takeWhile fun x=>!x.first).length<l.length):l[(l.takeWhile fun x=>!x.first).length].first=true:=by
 induction l with
 |nil=>exact absurd h (by simp)
 |cons a l cU=>
  by_cases hf:a.first=true
  ·simp only[Ix (p:=fun x:eR=>!x.first) (a:=a) (l:=l) (by simp[hf]),kZ,Mg];exact hf
  ·simp only[Iy (p:=fun x:eR=>!x.first) (a:=a) (l:=l) (by simp[hf]),eT] at h⊢;exact cU (A0 h)
theorem aql(l:List eR):(l.takeWhile fun x=>!x.first).length≤l.length:=(VF _).length_le
def Wb:Except (Nat×Nat) (List (Nat×C))→List (Nat×C)× Nat×Nat
 |.error (i,e)=>([],i,e)
 |.ok l=>(l,0,0)
theorem aqm(f:Nat)(w:eR)(ws:List eR)(acc:List (Nat×C)):p3 (f+1) (w::ws) acc=match r4 w (ws.takeWhile fun x=>!x.first) with
 |.error e=>.error e
 |.ok l=>p3 f (ws.dropWhile fun x=>!x.first) (acc++l.map fun c=>(w.a,c)):=rfl
theorem X9(f:Nat)(acc:List (Nat×C)):p3 f [] acc=.ok acc:=by cases f<;>rfl
theorem aqn(h:ta s=(ws,0,0)):k0 s=Wb (p3 ws.length ws []):=by unfold k0;rw[h];simp only[];rw[aN (fun h=>h rfl)];cases p3 ws.length ws []<;>rfl
theorem aqo{e:Nat}(h:ta s=(ws,i,e))(he:e≠0):k0 s=([],i,e):=by unfold k0;rw[h];simp only[];rw[aW he]
theorem Wc{e:aai}{l:ar}(h:w.ownsRow B e 1 v n (su l)):∃p cap,v=ad p n cap∧jL w p l∧n=l.length:=by
 have az:n=l.length:=by have:=h.1;rw[aiS] at this;omega
 rcases h.2 with ⟨rfl,rfl⟩|⟨g,cap,cur,rfl,_,aI,_,_,_,bc⟩
 ·refine⟨_,_,rfl,?_,az⟩;obtain rfl:l=[]:=lP az.symm;exact jL.nil _ _
 ·refine⟨_,_,rfl,jL.of fun i hi=>?_,az⟩;rw[jt,Cd w g i cur e (0,0) aI];have:=ZA l i hi;rw[←bc,ra,aW (by omega)] at this;simpa using this
theorem adW{v0 v1 v2 v3:ada}{t:aai}(h:al w b (#[v0,v1,v2,v3]) t):(ak w b 0 v0∧ak w b 1 v1∧ak w b 2 v2∧ak w b 3 v3)∧(∀i,w.frozen? ⟨b,i,none⟩=false):=by refine⟨⟨?_,?_,?_,?_⟩,fun i=>?_⟩<;>simp[World.cell?,World.frozen?,h]
theorem adX{s:je}(h:wJ s)(hn:s.words.length<20000)(x:eR)(hi:i≤s.words.length+1):wJ {s with words:=s.words++[x],inner:=i,text:=[]}:=
 ⟨by simp;omega,fun h=>absurd rfl h,by simp,by simp;omega⟩
theorem PS(B R:Nat)(s:je)(hq iC:ada)(w:aeo)(bz:B≤w.heap.size)(H:af (gS B R hq iC s w))(hf:wJ s)(res:Except Nat je)(c6:af (Jx s=res)):
  Calls Tryz.prog 104 #[ah R 0] w (aaw B R w res):=by
 have cE:=ao bz;have aJ:=ao hf;clear hf;obtain⟨aV,aT,c2,c3,cD⟩:=H.out.cells;have nd:=H.out.dk;obtain⟨p,cap,rfl,q5,qX⟩:=Wc H.out.tx;have az:=c6.out;unfold Jx at az;by_cases bc:s.text=[]
 ·rw[aW bc] at az;have aQ:af (.error 2=res):=az;have aF:s.text.length=0:=(by rw[bc];rfl);rw[aF] at aT;clear az c6 qX q5 bc;go_enter Tryz.func104,Tryz.ntmps104;go_wp2_with fail;go_ret;rw[←aQ.out];exact⟨Below.refl _ _,rfl⟩
 ·rw[aN bc] at az;have aQ:=ao az;have wA:0<s.text.length:=List.length_pos_iff.2 bc;have hne:((s.text.length:Int)==0)=false:=(by simp;omega);have aqp:=H.out.lt;have d0:(w.alloc (ai (#[I 0,U false,U false,aa ⟨#[]⟩]) 125)).cell? ⟨R,0,none⟩=_:=(H.out.below ((Below.refl _ _).alloc (aP _) _)).cells.1;have d1:(w.alloc (ai (#[I 0,U false,U false,aa ⟨#[]⟩]) 125)).cell? ⟨R,1,none⟩=_:=(H.out.below ((Below.refl _ _).alloc (aP _) _)).cells.2.1;have d2:(w.alloc (ai (#[I 0,U false,U false,aa ⟨#[]⟩]) 125)).cell? ⟨R,2,none⟩=_:=(H.out.below ((Below.refl _ _).alloc (aP _) _)).cells.2.2.1;have d3:(w.alloc (ai (#[I 0,U false,U false,aa ⟨#[]⟩]) 125)).cell? ⟨R,3,none⟩=_:=(H.out.below ((Below.refl _ _).alloc (aP _) _)).cells.2.2.2.1;have d4:(w.alloc (ai (#[I 0,U false,U false,aa ⟨#[]⟩]) 125)).cell? ⟨R,4,none⟩=_:=(H.out.below ((Below.refl _ _).alloc (aP _) _)).cells.2.2.2.2;have UI:=jL.str (P:=Tryz.prog) (w:=(w.alloc (ai (#[I 0,U false,U false,aa ⟨#[]⟩]) 125)).drew) (p:=p) (l:=s.text) (q5.below (((Below.refl _ _).alloc (aP _) _).drew)) 159 5 9 Qp Tryz.underlying5 Tryz.underlying9 s.text.length cap rfl;have kC:=jL.str (P:=Tryz.prog) (w:=w.drew) (p:=p) (l:=s.text) q5 159 5 9 Qp Tryz.underlying5 Tryz.underlying9 s.text.length cap rfl;clear az c6 qX;go_enter Tryz.func104,Tryz.ntmps104;go_upto_region 3 with fail;have fC:((s.inner:Int)==0)=decide (s.inner=0):=(by rw[yN];simp);have bN:af (gS B R hq (ad p s.text.length cap) s ((w.alloc (ai (#[I (s.a:Int),U s.group,U (decide (s.inner=0)),aa ⟨s.text.toArray⟩]) 125)).drew)):=H.out.below (((Below.refl _ _).alloc (aP _) _).drew);have bH:af (((w.alloc (ai (#[I (s.a:Int),U s.group,U (decide (s.inner=0)),aa ⟨s.text.toArray⟩]) 125)).drew).heap[w.heap.size]?=some (.cells #[I (s.a:Int),U s.group,U (decide (s.inner=0)),aa ⟨s.text.toArray⟩] 125)):=dL w _;have cG:af (an w w ((w.alloc (ai (#[I (s.a:Int),U s.group,U (decide (s.inner=0)),aa ⟨s.text.toArray⟩]) 125)).drew)):=((Below.refl _ _).alloc (aP _) _).drew;have abi:(s.inner:Int)≤20000:=(by have:=aJ.out.n0;have:=aJ.out.n4;omega);go_region
  all_goals
   clear aV aT c2 c3 cD d0 d1 d2 d3 d4 kC UI q5 nd aqp fC;generalize (w.alloc (ai (#[I (s.a:Int),U s.group,U (decide (s.inner=0)),aa ⟨s.text.toArray⟩]) 125)).drew=W at bN bH cG⊢;obtain⟨_,_,_,c3,cD⟩:=bN.out.cells;have f4:=bN.out.dk 4;by_cases aI:s.group=true
   ·rw[aI] at c3;have fy:=ao aI;clear aI;have hj:af (gS B R hq (ad p s.text.length cap) {s with inner:=s.inner+1} (W.setCell (aj R 4) (I ((s.inner:Int)+1)))):=bN.out.aav (s.inner+1) _ (by omega);have ib:af ((W.setCell (aj R 4) (I ((s.inner:Int)+1))).heap[w.heap.size]?=some (.cells #[I (s.a:Int),U s.group,U (decide (s.inner=0)),aa ⟨s.text.toArray⟩] 125)):=(hC _ _ _ _ (by show w.heap.size≠R;have:=H.out.lt;omega)).trans bH.out;have bT:af (Below B w (W.setCell (aj R 4) (I ((s.inner:Int)+1)))):=(cG.out.mono cE.out).setCell (p:=⟨R,4,none⟩) H.out.ge _;go_upto_region 6 with fail;clear bN bH cG c3 cD f4;generalize W.setCell (aj R 4) (I ((s.inner:Int)+1))=gO at hj ib bT⊢;obtain⟨i0,hi,cW,dv,dx⟩:=info_parts aax;have bL:=ao (And.intro hi (And.intro cW (And.intro dv dx)));clear hi cW dv dx;obtain⟨⟨g0,g1,g2,g3⟩,_⟩:=adW ib.out;obtain⟨aV,aT,c2,c3,cD⟩:=hj.out.cells;have f0:=hj.out.dk 0;have f1:=hj.out.dk 1;have TB:R<gO.heap.size:=hj.out.lt;have EO:w.heap.size<gO.heap.size:=(Array.getElem?_eq_some_iff.1 ib.out).1;obtain⟨mU,yo,rfl⟩:=iw hj.out.ws;have h2:s.words.length<20000:=aJ.out.eG bc;have iX:(Value.slice mU s.words.length yo).ownBlock≠some R:=nP hj.out.ws hj.out.obj (by decide)
    go_region_law (first|((refine sr _ (by rfl) _ _ _ (by rfl) B 125 i0 (.agg #[I 0,U false,U false,aa ⟨#[]⟩]) 4 32 Tryz.underlying121 bL.out.1 bL.out.2.1 bL.out.2.2.1 bL.out.2.2.2 rfl (by omega) (ad mU s.words.length yo) s.words.length _ (by rfl) ((hj.out.ws.alloc _).drew) (aj gO.heap.size 0) 1 1 [I (s.a:Int),U s.group,U (decide (s.inner=0)),aa ⟨s.text.toArray⟩] (by rfl) (by rfl) (jx (cs:= #[I (s.a:Int),U s.group,U (decide (s.inner=0)),aa ⟨s.text.toArray⟩]) (t:=125) (fr:=(0,0)) (dL gO _)) (by simp[Value.oneCell']) (by omega) (by unfold maxLen;omega) (by omega) (by have:=cE.out;have:=bT.out.size;simp;omega) (gO.heap.size+1) (by simp) ?_;intro gg gG bZ ct dn dF h5;have eB:=(hj.out.push (x:=⟨s.a,s.group,decide (s.inner=0),s.text⟩) (((Below.refl _ _).alloc (aP _) _).drew) dn ct (cd cE.out bT.out.size)).2.2;have bI:ak bZ R 0 _:=Cd bZ R 0 _ _ (0,0) eB;have bJ:bZ.frozen? ⟨R,0,none⟩=false:=by simp[World.frozen?,eB]))|fail)
    all_goals
     obtain⟨hm,ja,_⟩:=hj.out.push (x:=⟨s.a,s.group,decide (s.inner=0),s.text⟩) (((Below.refl _ _).alloc (aP _) _).drew) dn ct (cd cE.out bT.out.size);have bn:=ao (And.intro hm (bT.out.trans ja));clear hm ja ct dn dF h5 eB bI bJ g0 g1 g2 g3 aV aT c2 c3 cD f0 f1;generalize bZ.setCell (aj R 0) (ad (some (aj gg 0)) (s.words.length+1) gG)=nr at bn⊢;obtain⟨aV,aT,c2,c3,cD⟩:=bn.out.1.cells;have f1:=bn.out.1.dk 1;have gX:=bn.out.1.clear rfl;have cc:af (gS B R (ag gg 0 (s.words.length+1) gG) (ad p 0 cap) {s with words:=s.words++[⟨s.a,s.group,decide (s.inner=0),s.text⟩],inner:=s.inner+1,text:=[]} (nr.setCell (aj R 1) (ad p 0 cap))∧Below B w (nr.setCell (aj R 1) (ad p 0 cap))):=⟨gX,bn.out.2.setCell H.out.ge _⟩;clear gX;go_wp2_with fail;go_ret;rw[←aQ.out];simp only[fy.out,D6];have ft:=cc.out.1;have cP:=adX aJ.out h2 ⟨s.a,s.group,decide (s.inner=0),s.text⟩ (i:=s.inner+1) (by show s.inner+1≤_;have:=aJ.out.n4;omega);rw[fy.out] at ft cP;exact⟨cc.out.2,rfl,cP,_,_,ft⟩
   ·rw[Bool.eq_false_iff.2 aI] at c3;have fy:af (s.group=false):=Bool.eq_false_iff.2 aI;clear aI;have hj:af (gS B R hq (ad p s.text.length cap) {s with inner:=s.inner} W):=bN.out;have ib:=bH;have bT:af (Below B w W):=cG.out.mono cE.out;go_upto_region 6 with fail;clear bN bH cG c3 cD f4;generalize W=gO at hj ib bT⊢;obtain⟨i0,hi,cW,dv,dx⟩:=info_parts aax;have bL:=ao (And.intro hi (And.intro cW (And.intro dv dx)));clear hi cW dv dx;obtain⟨⟨g0,g1,g2,g3⟩,_⟩:=adW ib.out;obtain⟨aV,aT,c2,c3,cD⟩:=hj.out.cells;have f0:=hj.out.dk 0;have f1:=hj.out.dk 1;have TB:R<gO.heap.size:=hj.out.lt;have EO:w.heap.size<gO.heap.size:=(Array.getElem?_eq_some_iff.1 ib.out).1;obtain⟨mU,yo,rfl⟩:=iw hj.out.ws;have h2:s.words.length<20000:=aJ.out.eG bc;have iX:(Value.slice mU s.words.length yo).ownBlock≠some R:=nP hj.out.ws hj.out.obj (by decide)
    go_region_law (first|((refine sr _ (by rfl) _ _ _ (by rfl) B 125 i0 (.agg #[I 0,U false,U false,aa ⟨#[]⟩]) 4 32 Tryz.underlying121 bL.out.1 bL.out.2.1 bL.out.2.2.1 bL.out.2.2.2 rfl (by omega) (ad mU s.words.length yo) s.words.length _ (by rfl) ((hj.out.ws.alloc _).drew) (aj gO.heap.size 0) 1 1 [I (s.a:Int),U s.group,U (decide (s.inner=0)),aa ⟨s.text.toArray⟩] (by rfl) (by rfl) (jx (cs:= #[I (s.a:Int),U s.group,U (decide (s.inner=0)),aa ⟨s.text.toArray⟩]) (t:=125) (fr:=(0,0)) (dL gO _)) (by simp[Value.oneCell']) (by omega) (by unfold maxLen;omega) (by omega) (by have:=cE.out;have:=bT.out.size;simp;omega) (gO.heap.size+1) (by simp) ?_;intro gg gG bZ ct dn dF h5;have eB:=(hj.out.push (x:=⟨s.a,s.group,decide (s.inner=0),s.text⟩) (((Below.refl _ _).alloc (aP _) _).drew) dn ct (cd cE.out bT.out.size)).2.2;have bI:ak bZ R 0 _:=Cd bZ R 0 _ _ (0,0) eB;have bJ:bZ.frozen? ⟨R,0,none⟩=false:=by simp[World.frozen?,eB]))|fail)
    all_goals
     obtain⟨hm,ja,_⟩:=hj.out.push (x:=⟨s.a,s.group,decide (s.inner=0),s.text⟩) (((Below.refl _ _).alloc (aP _) _).drew) dn ct (cd cE.out bT.out.size);have bn:=ao (And.intro hm (bT.out.trans ja));clear hm ja ct dn dF h5 eB bI bJ g0 g1 g2 g3 aV aT c2 c3 cD f0 f1;generalize bZ.setCell (aj R 0) (ad (some (aj gg 0)) (s.words.length+1) gG)=nr at bn⊢;obtain⟨aV,aT,c2,c3,cD⟩:=bn.out.1.cells;have f1:=bn.out.1.dk 1;have gX:=bn.out.1.clear rfl;have cc:af (gS B R (ag gg 0 (s.words.length+1) gG) (ad p 0 cap) {s with words:=s.words++[⟨s.a,s.group,decide (s.inner=0),s.text⟩],inner:=s.inner,text:=[]} (nr.setCell (aj R 1) (ad p 0 cap))∧Below B w (nr.setCell (aj R 1) (ad p 0 cap))):=⟨gX,bn.out.2.setCell H.out.ge _⟩;clear gX;go_wp2_with fail;go_ret;rw[←aQ.out];simp only[fy.out,Ru,JM];have ft:=cc.out.1;have cP:=adX aJ.out h2 ⟨s.a,s.group,decide (s.inner=0),s.text⟩ (i:=s.inner) (by show s.inner≤_;have:=aJ.out.n4;omega);rw[fy.out] at ft cP;exact⟨cc.out.2,rfl,cP,_,_,ft⟩
end gK
