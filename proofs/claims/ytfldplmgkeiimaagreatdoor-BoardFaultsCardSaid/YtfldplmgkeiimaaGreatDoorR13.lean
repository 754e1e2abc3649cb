/- Lemmas. -/
import Derived.Test.YtfldplmgkeiimaaGreatDoorR12
import Derived.RangeFuncBox
import Derived.Laws.CopyOwn
set_option linter.all false
set_option maxRecDepth 100000
set_option maxHeartbeats 25600000
namespace Go.Proofs.YtfldplmgkeiimaaGreatDoor
abbrev Sd:=@List.mem_cons
abbrev Se:=@List.not_mem_nil
namespace dd
open Go.RowKit ef
theorem NJ(k o n c:Nat)(hn:0<n∧n≤1000000000)(w:aeo):
  Calls Tryz.prog 168 #[ag k o n c] w fun e w'=>e=ab (lr (k,o,n))∧ao w w w':=by
 have av:(0:Int)<(n:Int):=by omega
 have az:=hn.1;go_enter Tryz.func168,Tryz.ntmps168;go_wp2_with fail;have key:=bY w (ai (#[.pointer (some (aj k o)),I (n:Int)]) xe);exact dU (tK rfl _ _ w.heap.size _ _ _ _ rfl key Nz rfl (by kernel_rfl)) rfl ⟨rfl,jz _ _⟩
theorem Jp(a b:Int)(ha:0≤a∧a≤1000000000)(ax:0≤b∧b≤1000000000)(r:Int)(hr:af (a+b=r))(w:aeo):Calls Tryz.prog 118 #[I a,I b] w fun e w'=>e=ab (I r)∧w'=w:=by rw[←hr.out];exact Yl a b ha ax w
variable{k o:Nat}
theorem Sf{v:aeo}{i j:Nat}{u x:ada}{cs:ajv}{t:aai}(aK:v.heap[k]?=some (.cells cs t (0,0)))(h:j≠i)(hx:ak v k j x):(v.setCell (aj k i) u).cell? ⟨k,j,none⟩=some x:=by refine cell_of (dt u aK) ?_;rw[yN,aW (gu h)];simpa[World.cell?,aK] using hx
theorem ub.len{root:bk}:∀{f:Fr} {ts:List Fr},ub root (f::ts)→ts.length+f.all.count≤root.count
 |f,[],h=>by rw[show f.all=root from h];simp
 |f,g::ts,h=>by obtain⟨⟨a,b,r,e⟩,az⟩:=h;have aC:=ub.len az;have bt:f.all.count<g.all.count:=(by rw[show g.all=g.pre.append g.rest from rfl,bk.count_append,e,bk.count_cons];omega);simp only[fY];omega
theorem Yy{w:aeo}{B g n c bD m:Nat}{e:aai}{xs:aev}(h:w.ownsRow B e bD (ag g 0 n c) m xs):m≤c:=by
 rcases h.2 with ⟨aY,_⟩|⟨k,cap,cur,ay,bK,aK,av,_⟩
 ·cases aY
 ·injection ay with _ _ hc;rw[hc];exact av
abbrev Yz:Value:=.agg #[J 0,I 0,I 0]
theorem aiP:(Tryz.prog.info? 296).map (fun i=>(i.zero,i.size,i.bytes))=some (some Yz,3,40):=by kernel_rfl
theorem aiQ(S:afp)(s:bk)(k o c:Nat)(w:aeo)(db:af (ij S w (some (aj k o)) s))(aA:0<s.len)(ax:s.count≤100000000):
  Calls Tryz.prog 119 #[ag k o s.len c] w fun e w'=>e=ab (I (s.count:Int))∧ao w w w':=by
 obtain⟨m,hm⟩:=ar s.len;obtain⟨N,hZ⟩:=ar s.count;have bH:=aq hm;have bd:=aq hZ;have oa:=db.out.1;rw[hZ] at ax;rw[hm] at aA oa;have YA:m≤1000000000:=oa;rw[hm,hZ];clear hm hZ oa;have l8:=@run_makeMap Tryz.prog;have sk:((m:Int)==0)=false:=by rw[kS];omega
 go_enter Tryz.func119,Tryz.ntmps119;go_wp2_with fail;with_reducible refine (NJ k o m c ⟨aA,YA⟩ _).mono ?_
 rintro e V ⟨rfl,Sg⟩;have w9:af (rF V w.heap.size []):=rF.below ⟨#[],0,bY w _,rfl⟩ Sg;have aI:af (ao w w V):=(jz _ _).trans (Sg.mono (by simp));clear Sg;obtain⟨cs,iw,_⟩:=db.out.block (by rw[bH.out];exact aA);obtain⟨cc,Gd,Gb,ej,qL⟩:=R9 w9.out (L:=[]) (fun x hx=>by simp at hx) (k,o,m) (ca:=cs) (aU iw aI.out) (-1);have lE:=aq Gb;have cC:af (ao w w cc):=aI.out.trans (ej.below _ aI.out.size fun k ay e=>by omega);clear Gb ej iw qL;go_upto_region 5 with fail
 have l1:af (nQ S w w.heap.size s [⟨k,o,c,.nil,s⟩] false (nP [] (k,o,m) (-1)) (ag cc.heap.size 0 1 1) (cc.alloc (ai (#[ad (some (aj k o)) m c,I 0,I 0]) vz))):=by
  have lO:(⟨k,o,c,.nil,s⟩:Fr).key=(k,o,m):=(by unfold Fr.key Fr.all;rw[←bH.out];rfl);have ix:(⟨k,o,c,.nil,s⟩:Fr).all=s:=rfl;have qi:uc S w [] []:=⟨fun k v h=>by simp[kj] at h,fun k v h=>by simp[kj] at h,fun x hx=>by simp at hx⟩;refine⟨cC.out.alloc cC.out.size _,?_,lE.out.below (a6 _ _),?_,rfl,trivial,fun g aF=>?_,bx _,fun e=>by cases e⟩
  ·have h:=World.ownsRow_lit (base:=w.heap.size) (e:=vz) (size:=3) cc #[ag k o m c,I 0,I 0] 1 cC.out.size (by decide) rfl;have e:pC [⟨k,o,c,.nil,s⟩]=[ad (some (aj k o)) m c,I 0,I 0]:=(by simp[pC,DG,Fr.all,bk.append,bH.out,bk.len,bk.count]);rw[e];exact h
  ·have h:=qi.push (f:=⟨k,o,c,.nil,s⟩) db.out (by rw[ix,bH.out];exact aA);rw[lO] at h;exact h
  ·obtain rfl:g=⟨k,o,c,.nil,s⟩:=(by simpa using aF);rw[ix,bH.out];exact⟨db.out,aA,YA⟩
 have zS:af (iE false [⟨k,o,c,.nil,s⟩]≤qK s+1):=bx _;generalize cc.alloc (.cells #[ag k o m c,I 0,I 0] vz)=W at l1⊢;generalize cc.heap.size=G at l1⊢;clear cC lE aI w9 sk Gd
 go_loopg [4] (qK s+1) (fun gk sv wr=>∃(f:Fr) (ts:List Fr) (hd:Bool) (L:List (iD×Int)) (aM:aeo),aM=wr∧af (nQ S w w.heap.size s (f::ts) hd L sv aM)∧af (iE hd (f::ts)≤gk))
 case atStart=>exact⟨_,_,_,_,_,rfl,l1.out,zS.out⟩
 case round=>
 obtain⟨f,ts,hd,L,aM,rfl,bC,bw⟩:=hrel;obtain⟨n,hn⟩:=ar ts.length;have rG:=aq hn;have eD:=bC.out.row;rw[show (f::ts).length=n+1 by simp[hn]] at eD;obtain⟨g,cap,rfl⟩:=ownsRow_succ eD;obtain⟨ek,a7,bf⟩:=Jn (z0:=ad (some (aj f.k f.o)) f.all.len f.c) (z1:=I (f.pre.len:Int)) (z2:=I (f.pre.count:Int)) eD (by rw[BK,hn]);have nE:∀j,aM.frozen? ⟨g,j,none⟩=false:=fun j=>eD.frozenAt j;obtain⟨YB,Sh,flb⟩:=bC.out.ps f (by simp);have NK:=aq YB;have hv:=bC.out.yP.Yv;rw[bd.out] at hv;have C1:f.all.len=f.pre.len+f.rest.len:=bk.tB _ _;have YC:f.all.count=f.pre.count+f.rest.count:=bk.count_append _ _;obtain⟨al,NL⟩:=ar f.all.len;obtain⟨pl,pX⟩:=ar f.pre.len;obtain⟨h',Si⟩:=ar f.pre.count;have Ge:=aq NL;have qH:=aq pX;have DH:=aq Si;rw[YC] at hv;rw[Si] at hv bf;rw[pX] at a7;rw[NL] at ek Sh flb;have q':al=pl+f.rest.len:=by rw[←NL,←pX];exact C1
 obtain⟨dh,fe⟩:=ar (n+1);have gP:=aq fe;have av8:(dh:Int)≤1000000000:=by have av:=bC.out.yP.len;rw[hn,bd.out] at av;omega
 have Jq:=Yy eD;have aiR:(n:Int)≤(cap:Int):=by omega
 have aiS:n≤cap:=by omega
 have aiU:¬cap=0:=by omega
 have xg:(dh:Int)≤(cap:Int):=by omega
 rw[fe];have oo:ae ((dh:Int)-1)=(n:Int):=by rw[cY _ (by omega)];omega
 have dJ:(n:Int)<(dh:Int):=by omega
 have dv:n<dh:=by omega
 clear eD C1 YC NL pX Si fe hn YB Jq;cases ud:f.rest with
 |nil=>
  rw[ud] at q' hv;have NM:pl=al:=(by rw[q'];rfl);clear q';subst NM;go_upto_region 6 with fail
  go_quiet (fail)
  have lY:=aq (bC.out.below (kX (Below.refl _ _) nq));clear ek a7 bf nE bC;generalize aM.drewN nq=YD at lY⊢;have eD:=lY.out.row;rw[show (f::ts).length=n+1 by simp[rG.out]] at eD;obtain⟨ek,a7,bf⟩:=Jn (z0:=ad (some (aj f.k f.o)) f.all.len f.c) (z1:=I (f.pre.len:Int)) (z2:=I (f.pre.count:Int)) eD (by rw[BK,rG.out]);rw[DH.out] at bf;rw[Ge.out] at ek;clear eD;go_wp2_with fail;with_reducible refine (NJ f.k f.o pl f.c ⟨Sh,flb⟩ _).mono ?_
  rintro e mc ⟨rfl,dc⟩;have gl:=aq (lY.out.below dc);obtain⟨cs,iw,_⟩:=NK.out.block (by rw[Ge.out];exact Sh);obtain⟨dP,Gd,zY,l6,Gf⟩:=R9 gl.out.map (fun x hx=>by obtain⟨cs,aK⟩:=gl.out.ob.fN x hx;exact⟨cs,aU aK gl.out.aX⟩) (f.k,f.o,pl) (ca:=cs) (aU iw gl.out.aX) (h':Int);have lO:(f.k,f.o,pl)=f.key:=(by unfold Fr.key;rw[Ge.out]);have CS:(h':Int)=(f.all.count:Int):=(by unfold Fr.all;rw[ud,bk.append_nil,DH.out]);rw[lO,CS] at zY;have qj:=aq zY;have re:=aq l6;have k7:=aq CS;clear ek a7 bf dc iw zY l6 Gf lO CS lY;go_upto_region 10 with fail;cases ts with
  |nil=>
   have l0:n=0:=rG.out.symm;subst l0;have aO:af ((h':Int)=(N:Int)):=(by show _=_;rw[k7.out,show f.all=s from gl.out.yP,bd.out]);go_wp2_with fail;go_ret;exact⟨pt aO.out,gl.out.aX.trans (re.out.below _ gl.out.aX.size fun k ay e=>by omega)⟩
  |cons g2 ts=>
   have l0:((n:Int)==0)=false:=(by have:=rG.out;rw[fY] at this;rw[kS];omega);have iN:=aq (nQ.pop gl.out rG.out re.out qj.out);have eO:af (iE true (g2::ts)+1≤gk):=(by have aS:iE hd (f::g2::ts)≤gk:=bw.out;have av:1+(vx g2.rest+2+xf ts)≤iE hd (f::g2::ts):=(by have e:iE hd (f::g2::ts)=(if hd=true then vx f.rest+2 else qK f.rest+1)+(vx g2.rest+2+xf ts):=rfl;rw[e];split<;>omega);have az:iE true (g2::ts)=vx g2.rest+2+xf ts:=(by simp[iE]);show iE true (g2::ts)+1≤gk;rw[az];omega);go_wp2_with fail
   go_roundg (gk-1)<;>first
    |exact⟨g2,ts,true,_,_,rfl,iN.out,(by have h:iE true (g2::ts)+1≤gk:=eO.out;omega:iE true (g2::ts)≤gk-1)⟩
    |(have h:iE true (g2::ts)+1≤gk:=eO.out;omega)
 |cons a b sub r=>
  rw[ud] at q' hv;rw[bk.count_cons] at hv;have bR:pl<al:=(by rw[q'];show pl<pl+(r.len+1);omega);have C5:((pl:Int)==(al:Int))=false:=(by rw[kS];omega);have gU:(pl:Int)<(al:Int):=(by omega);clear q';have i1:ij S w (some (aj f.k f.o)) (f.pre.append (.cons a b sub r)):=(by rw[←ud];exact NK.out);obtain⟨ht,lg,ql,dl,qp,cX,he,_,_,oS,_,_,_,_,_,_,_,_,_,_,cH⟩:=i1.part qH.out;have Gg:(⟨f.k,f.o,none⟩:Addr)=⟨ht,lg,none⟩:=q5 he;have IW:f.k=ht:=fp Addr.block Gg;have wE:f.o=lg:=fp Addr.off Gg;subst IW wE;obtain⟨fB,mG⟩:=ar sub.len;have k1:=aq mG;rw[mG] at cH;have uX:=aq oS;have Sj:=aq cH;have DI:=aq hv;clear i1 he Gg oS cH mG;go_upto_region 6 with fail
  go_quiet (fail)
  have lY:=aq (bC.out.below (kX (Below.refl _ _) nq));clear ek a7 bf nE bC;generalize aM.drewN nq=YD at lY⊢;have eD:=lY.out.row;rw[show (f::ts).length=n+1 by simp[rG.out]] at eD;obtain⟨ek,a7,bf⟩:=Jn (z0:=ad (some (aj f.k f.o)) f.all.len f.c) (z1:=I (f.pre.len:Int)) (z2:=I (f.pre.count:Int)) eD (by rw[BK,rG.out]);rw[DH.out] at bf;rw[qH.out] at a7;rw[Ge.out] at ek;clear eD;have cH:=bV lY.out.aX Sj.out;go_upto_region 12 with fail
  go_quiet (fail)
  have gl:=aq (lY.out.below (kX (Below.refl _ _) nq));clear ek a7 bf cH lY;generalize YD.drewN nq=mc at gl⊢;clear nq;by_cases aS:fB=0
  ·subst aS
   have aiV:sub=.nil:=by
    cases sub with
    |nil=>rfl
    |cons _ _ _ _=>exact absurd k1.out (by simp[bk.len])
   have av9:sub.count=0:=(by rw[aiV];rfl);have DJ:af (0≤(0:Int)∧(0:Int)≤1000000000):=(by show _∧_;decide);have eD:=gl.out.row;rw[show (f::ts).length=n+1 by simp[rG.out]] at eD;obtain⟨ek,a7,bf⟩:=Jn (z0:=ad (some (aj f.k f.o)) f.all.len f.c) (z1:=I (f.pre.len:Int)) (z2:=I (f.pre.count:Int)) eD (by rw[BK,rG.out]);rw[DH.out] at bf;rw[qH.out] at a7;have nE:∀j,mc.frozen? ⟨g,j,none⟩=false:=fun j=>eD.frozenAt j;obtain⟨cur,gJ⟩:=(vy eD).2;obtain⟨b1,rH⟩:=ar (1+(0:Int));obtain⟨z1,xh⟩:∃z:Int,((f.pre.count+(sub.count+1):Nat):Int)=z:=⟨_,rfl⟩;obtain⟨z2,xi⟩:∃z:Int,((f.pre.len+1:Nat):Int)=z:=⟨_,rfl⟩;have iw:=DI.out;have Sk:=DH.out;have Sl:=qH.out;have Sm:=DJ.out;have Jr:0≤b1∧b1≤1000000000:=(by omega);have Js:0≤(h':Int)∧(h':Int)≤1000000000:=(by omega);have Jt:(h':Int)+b1=z1:=(by omega);have aiW:ae ((pl:Int)+1)=z2:=(by rw[cY _ (by omega)];omega);have wR:=aq rH;have Sn:=aq Jr;have So:=aq Js;have tT:=aq Jt;have aN:∀u,(mc.setCell (aj g (n *3+2)) u).cell? ⟨g,n *3+1,none⟩=some (I (pl:Int)):=fun u=>Sf gJ (by omega) a7;have f1:∀u,(mc.setCell (aj g (n *3+2)) u).frozen? ⟨g,n *3+1,none⟩=false:=fun u=>cJ (dt u gJ) _;have DK:=nQ.NH gl.out rG.out ud;rw[xh,xi] at DK;have Sp:=aq DK;have eO:af (iE false (⟨f.k,f.o,f.c,f.pre.append (.cons a b sub .nil),r⟩::ts)+1≤gk):=(by have aS:iE hd (f::ts)≤gk:=bw.out;have e:iE hd (f::ts)=(if hd=true then vx f.rest+2 else qK f.rest+1)+xf ts:=rfl;have bf:iE false (⟨f.k,f.o,f.c,f.pre.append (.cons a b sub .nil),r⟩::ts)=(qK r+1)+xf ts:=rfl;show iE false _+1≤gk;rw[bf];rw[e,ud] at aS;simp only[vx,qK] at aS;split at aS<;>omega);clear eD gJ rH xh xi iw Sk Sl Jr Js Jt DK Sm;go_upto_region 22 with fail
   go_region_with (first|(go_at_call 118;with_reducible refine (Jp 1 (0) ⟨by decide,by decide⟩ DJ.out b1 wR _).mono ?_;rintro e bI ⟨rfl,rfl⟩)|(go_at_call 118;with_reducible refine (Jp h' b1 So.out Sn.out z1 tT _).mono ?_;rintro e bI ⟨rfl,rfl⟩)|fail)
   all_goals
    have aJ:(mc.setCell (aj g (n *3+2)) (I z1)).drew.cell? ⟨g,n *3+1,none⟩=some (I (pl:Int)):=aN _;have f2:(mc.setCell (aj g (n *3+2)) (I z1)).drew.frozen? ⟨g,n *3+1,none⟩=false:=f1 _;have rI:af (nQ S w w.heap.size s (⟨f.k,f.o,f.c,f.pre.append (.cons a b sub .nil),r⟩::ts) false L (ag g 0 (n+1) cap) ((mc.setCell (aj g (n *3+2)) (I z1)).drew.setCell (aj g (n *3+1)) (I z2))):=Sp.out.below (Below.refl _ _).drew;clear aN f1 ek a7 bf nE;generalize (mc.setCell (aj g (n *3+2)) (I z1)).drew=aiX at aJ f2 rI⊢;rw[gP.out] at rI;go_wp2_with fail
    go_roundg (gk-1)<;>first
     |exact⟨_,ts,false,L,_,rfl,rI.out,(by have h:iE false (⟨f.k,f.o,f.c,f.pre.append (.cons a b sub .nil),r⟩::ts)+1≤gk:=eO.out;omega:iE false (⟨f.k,f.o,f.c,f.pre.append (.cons a b sub .nil),r⟩::ts)≤gk-1)⟩
     |(have h:iE false (⟨f.k,f.o,f.c,f.pre.append (.cons a b sub .nil),r⟩::ts)+1≤gk:=eO.out;omega)
  ·have NN:0<fB:=(by omega);have DL:(0:Int)<(fB:Int):=(by omega);have Ju:fB≤1000000000:=(by rw[←k1.out];exact uX.out.p.1);have aR:=uX.out.p;obtain⟨ba,c2,xd,rfl,aiY,o5,_⟩:=aR.2 (by show 0<sub.len;rw[k1.out];exact NN);have IX:af (ij S w (some (aj ba c2)) sub):=aR;have YE:=aq o5;have rJ:decide ((fB:Int)> 0)=true:=eL DL;clear aR o5 aiY;go_wp2_with fail;with_reducible refine (NJ ba c2 fB cX ⟨NN,Ju⟩ _).mono ?_
   rintro e sC ⟨rfl,im⟩;have pW:=aq (gl.out.below im);clear im gl;have Jv:=aiL pW.out.map (fun x hx=>by obtain⟨cs,aK⟩:=pW.out.ob.fN x hx;exact⟨cs,aU aK pW.out.aX⟩) (ba,c2,fB) (aU YE.out pW.out.aX);obtain⟨aiZ,Sq⟩:=ar (kj L (ba,c2,fB));have YF:=aq Sq;rw[Sq] at Jv;clear Sq;cases aiZ with
   |some v=>
    have NO:v=(sub.count:Int):=(by have av:kj L (ba,c2,sub.len)=some v:=(by rw[k1.out];exact YF.out);refine pW.out.ob.found pW.out.yP (fun g aF=>(pW.out.ps g aF).1) IX.out ?_ av;rw[show f.all=f.pre.append f.rest from rfl,bk.count_append,ud,bk.count_cons];omega);have DJ:af (0≤v∧v≤1000000000):=(by have:=DI.out;show _∧_;omega);have vA:=aq NO;have sN:(v== -1)=false:=(by rw[kS];omega);have YG:(Instr.lookup NF (.map (some w.heap.size)) (lr (ba,c2,fB)) true).run Tryz.prog sC=.ok (.tuple #[I v,U true]) sC:=Jv;clear Jv NO;have eD:=pW.out.row;rw[show (f::ts).length=n+1 by simp[rG.out]] at eD;obtain⟨ek,a7,bf⟩:=Jn (z0:=ad (some (aj f.k f.o)) f.all.len f.c) (z1:=I (f.pre.len:Int)) (z2:=I (f.pre.count:Int)) eD (by rw[BK,rG.out]);rw[DH.out] at bf;rw[qH.out] at a7;have nE:∀j,sC.frozen? ⟨g,j,none⟩=false:=fun j=>eD.frozenAt j;obtain⟨cur,gJ⟩:=(vy eD).2;obtain⟨b1,rH⟩:=ar (1+(v:Int));obtain⟨z1,xh⟩:∃z:Int,((f.pre.count+(sub.count+1):Nat):Int)=z:=⟨_,rfl⟩;obtain⟨z2,xi⟩:∃z:Int,((f.pre.len+1:Nat):Int)=z:=⟨_,rfl⟩;have iw:=DI.out;have Sk:=DH.out;have Sl:=qH.out;have Sm:=DJ.out;have NO:=vA.out;have Jr:0≤b1∧b1≤1000000000:=(by omega);have Js:0≤(h':Int)∧(h':Int)≤1000000000:=(by omega);have Jt:(h':Int)+b1=z1:=(by omega);have aiW:ae ((pl:Int)+1)=z2:=(by rw[cY _ (by omega)];omega);have wR:=aq rH;have Sn:=aq Jr;have So:=aq Js;have tT:=aq Jt;have aN:∀u,(sC.setCell (aj g (n *3+2)) u).cell? ⟨g,n *3+1,none⟩=some (I (pl:Int)):=fun u=>Sf gJ (by omega) a7;have f1:∀u,(sC.setCell (aj g (n *3+2)) u).frozen? ⟨g,n *3+1,none⟩=false:=fun u=>cJ (dt u gJ) _;have DK:=nQ.NH pW.out rG.out ud;rw[xh,xi] at DK;have Sp:=aq DK;have eO:af (iE false (⟨f.k,f.o,f.c,f.pre.append (.cons a b sub .nil),r⟩::ts)+1≤gk):=(by have aS:iE hd (f::ts)≤gk:=bw.out;have e:iE hd (f::ts)=(if hd=true then vx f.rest+2 else qK f.rest+1)+xf ts:=rfl;have bf:iE false (⟨f.k,f.o,f.c,f.pre.append (.cons a b sub .nil),r⟩::ts)=(qK r+1)+xf ts:=rfl;show iE false _+1≤gk;rw[bf];rw[e,ud] at aS;simp only[vx,qK] at aS;split at aS<;>omega);clear eD gJ rH xh xi iw Sk Sl Jr Js Jt DK Sm NO;go_upto_region 22 with fail
    go_region_with (first|(go_at_call 118;with_reducible refine (Jp 1 (v) ⟨by decide,by decide⟩ DJ.out b1 wR _).mono ?_;rintro e bI ⟨rfl,rfl⟩)|(go_at_call 118;with_reducible refine (Jp h' b1 So.out Sn.out z1 tT _).mono ?_;rintro e bI ⟨rfl,rfl⟩)|fail)
    all_goals
     have aJ:(sC.setCell (aj g (n *3+2)) (I z1)).drew.cell? ⟨g,n *3+1,none⟩=some (I (pl:Int)):=aN _;have f2:(sC.setCell (aj g (n *3+2)) (I z1)).drew.frozen? ⟨g,n *3+1,none⟩=false:=f1 _;have rI:af (nQ S w w.heap.size s (⟨f.k,f.o,f.c,f.pre.append (.cons a b sub .nil),r⟩::ts) false L (ag g 0 (n+1) cap) ((sC.setCell (aj g (n *3+2)) (I z1)).drew.setCell (aj g (n *3+1)) (I z2))):=Sp.out.below (Below.refl _ _).drew;clear aN f1 ek a7 bf nE;generalize (sC.setCell (aj g (n *3+2)) (I z1)).drew=aiX at aJ f2 rI⊢;rw[gP.out] at rI;go_wp2_with fail
     go_roundg (gk-1)<;>first
      |exact⟨_,ts,false,L,_,rfl,rI.out,(by have h:iE false (⟨f.k,f.o,f.c,f.pre.append (.cons a b sub .nil),r⟩::ts)+1≤gk:=eO.out;omega:iE false (⟨f.k,f.o,f.c,f.pre.append (.cons a b sub .nil),r⟩::ts)≤gk-1)⟩
      |(have h:iE false (⟨f.k,f.o,f.c,f.pre.append (.cons a b sub .nil),r⟩::ts)+1≤gk:=eO.out;omega)
   |none=>
    have YG:(Instr.lookup NF (.map (some w.heap.size)) (lr (ba,c2,fB)) true).run Tryz.prog sC=.ok (.tuple #[I 0,U false]) sC:=Jv;clear Jv
    have ai0:af (hd=false):=by
     show hd=false;cases hd with
     |false=>rfl
     |true=>
      exfalso;obtain⟨f',us,k3,bc,awa,fK,p3,nD,c',e,bf,_,cM,hO⟩:=pW.out.ay rfl;injection e with nN jW;subst nN;rw[ud] at bf;injection bf with _ _ iO _;subst iO;have iP:=Sj.out;rw[qH.out,iP] at cM;injection cM with cM;injection cM with nj _ _;injection nj with nj;injection nj with sF R3;subst sF R3;apply hO;rw[k1.out];exact YF.out
    go_upto_region 18 with fail;go_wp2_with fail;with_reducible refine (NJ ba c2 fB cX ⟨NN,Ju⟩ _).mono ?_
    rintro e Nn ⟨rfl,jE⟩;have iN:=aq (pW.out.below jE);clear jE pW YG;obtain⟨dP,Gd,zY,l6,Gf⟩:=R9 iN.out.map (fun x hx=>by obtain⟨cs,aK⟩:=iN.out.ob.fN x hx;exact⟨cs,aU aK iN.out.aX⟩) (ba,c2,fB) (ca:=xd) (aU YE.out iN.out.aX) (-1);have qj:=aq zY;have dV:af (ao w w dP):=iN.out.aX.trans (l6.below _ iN.out.aX.size fun k ay e=>by omega);have Sr:af (dP.ownsRow w.heap.size vz 3 (ag g 0 (n+1) cap) (n+1) (pC (f::ts))):=(by have h:=iN.out.row;rw[show (f::ts).length=n+1 by simp[rG.out]] at h;exact Sa h l6 fun k bf cM=>Sb iN.out.map h (cM ▸ bf));rw[gP.out] at Sr;clear zY l6 Gf;obtain⟨i0,hi,dy,xh,xi⟩:=info_parts aiP;have b8:=aq (And.intro hi (And.intro dy (And.intro xh xi)));clear hi dy xh xi;have jb:af ((dP.alloc (ai (#[ad (some (aj ba c2)) fB cX,I 0,I 0]) vz)).ownsRow w.heap.size vz 3 (ag g 0 dh cap) dh (pC (f::ts))):=Sr.out.alloc _;have awb:=dV.out.size;go_wp2_with (at_builtin;refine yI _ rfl _ _ _ rfl w.heap.size vz i0 Yz 3 40 Tryz.underlying297 b8.out.1 b8.out.2.1 b8.out.2.2.1 b8.out.2.2.2 rfl (by omega) (ag g 0 dh cap) dh _ (by rfl) jb.out (aj dP.heap.size 0) 1 1 [ag ba c2 fB cX,I 0,I 0] (by rfl) (by rfl) (j8 (cs:= #[ad (some (aj ba c2)) fB cX,I 0,I 0]) (t:=vz) (fr:=(0,0)) (fJ dP _)) (by simp[Value.oneCell']) (by omega) (by unfold maxLen;omega) (by omega) (by simp;omega) (dP.heap.size+1) (by simp) ?_;intro ed jc bI c0 ep eX iR);have Jw:w.heap.size≤g:=(vy Sr.out).1;have Sc:w.heap.size≠g:=(fun e=>by have h:=Sb iN.out.map iN.out.row;rw[←gP.out] at c0;exact h (by rw[e];rfl));have Ss:aP (fun b=>b≠g) (dP.alloc (ai (#[ad (some (aj ba c2)) fB cX,I 0,I 0]) vz)) bI:=aP.grown ep fun b e h=>h (by simpa[Value.ownBlock] using e.symm)
    have rI:af (nQ S w w.heap.size s (⟨ba,c2,cX,.nil,sub⟩::f::ts) false (nP L (ba,c2,fB) (-1)) (ag ed 0 (dh+1) jc) bI):=by
     have lO:(⟨ba,c2,cX,.nil,sub⟩:Fr).key=(ba,c2,fB):=(by unfold Fr.key Fr.all;rw[←k1.out];rfl);have h:=nQ.push (f':=⟨ba,c2,cX,.nil,sub⟩) (sv':=ad (some (aj ed 0)) (dh+1) jc) (w':=bI) iN.out (a:=a) (b:=b) (r:=r) ud rfl ?_ IX.out ⟨?_,?_⟩ ?_ ?_ ?_
     ·rw[lO] at h;exact h
     ·rw[qH.out,show (⟨ba,c2,cX,.nil,sub⟩:Fr).all.len=fB from k1.out];exact Sj.out
     ·rw[show (⟨ba,c2,cX,.nil,sub⟩:Fr).all.len=fB from k1.out];exact NN
     ·rw[show (⟨ba,c2,cX,.nil,sub⟩:Fr).all.len=fB from k1.out];exact Ju
     ·exact (dV.out.alloc dV.out.size _).trans (Ss.below _ (dV.out.alloc dV.out.size _).size fun b ax e=>by omega)
     ·have e:pC (⟨ba,c2,cX,.nil,sub⟩::f::ts)=pC (f::ts)++[ad (some (aj ba c2)) fB cX,I 0,I 0]:=(by show pC (f::ts)++DG _=_;unfold DG;rw[show (⟨ba,c2,cX,.nil,sub⟩:Fr).all.len=fB from k1.out];rfl);rw[e,show (⟨ba,c2,cX,.nil,sub⟩::f::ts:List Fr).length=dh+1 by simp[rG.out,gP.out]];exact c0
     ·rw[lO];exact (qj.out.below (a6 _ _)).keep Ss Sc
    have eO:af (iE false (⟨ba,c2,cX,.nil,sub⟩::f::ts)+1≤gk):=(by have aS:iE hd (f::ts)≤gk:=bw.out;have aK:hd=false:=ai0.out;subst aK;have e:iE false (f::ts)=qK f.rest+1+xf ts:=rfl;have bf:iE false (⟨ba,c2,cX,.nil,sub⟩::f::ts)=(qK sub+1)+(vx f.rest+2+xf ts):=rfl;show iE false (⟨ba,c2,cX,.nil,sub⟩::f::ts)+1≤gk;rw[bf,ud];rw[e,ud] at aS;simp only[vx,qK] at aS⊢;omega);clear c0 ep eX iR Ss
    go_roundg (gk-1)<;>first
     |exact⟨_,_,false,_,_,rfl,rI.out,(by have h:iE false (⟨ba,c2,cX,.nil,sub⟩::f::ts)+1≤gk:=eO.out;omega:iE false (⟨ba,c2,cX,.nil,sub⟩::f::ts)≤gk-1)⟩
     |(have h:iE false (⟨ba,c2,cX,.nil,sub⟩::f::ts)+1≤gk:=eO.out;omega)
theorem Fu(S:afp)(b:dm)(s:bk)(hs:s.count≤100000000)(pl:Ja)(n cl:Nat)(pp:Ja)(cp:Nat)(w:aeo)(db:af (ij S w pp s)):
  Calls Tryz.prog 79 #[.agg #[I b.k,I b.a.1,I b.a.2,I b.b.1,I b.b.2,I b.c.1,I b.c.2,I b.r,ad pl n cl,ad pp s.len cp]] w fun e w'=>e=ab (I ((s.count+1:Nat):Int))∧ao w w w':=by
 rcases Fl s.len with aS|aS
 ·have:s=.nil:=by
   cases s with
   |nil=>rfl
   |cons _ _ _ _=>simp[bk.len] at aS
  subst this;exact aix _ _ _ _ _ _ _ _ pl n cl pp cp w
 ·obtain⟨k,o,cs,rfl,_,_,_⟩:=db.out.2 aS;have bC:=aq (fun (Z:aeo) (eY:ao w w Z)=>aiQ S s k o cp Z (aq (db.out.below eY)) aS hs);obtain⟨m,hm⟩:=ar s.len;obtain⟨N,hZ⟩:=ar s.count;obtain⟨z,cz⟩:∃z:Int,((N+1:Nat):Int)=z:=⟨_,rfl⟩;rw[hZ] at hs;rw[hm,hZ] at bC;rw[hm,hZ,cz];have bT:=aq (Jp 1 N ⟨by decide,by decide⟩ ⟨by omega,by omega⟩ z (show _=_ by omega));clear hm hZ cz;go_enter Tryz.func79,Tryz.ntmps79;go_wp2_with fail;with_reducible refine (bC.out _ (jz _ _)).mono ?_
  rintro e V ⟨rfl,ax⟩;have aI:af (ao w w V):=(jz _ _).trans (ax.mono (jz _ _).size);clear ax;go_wp2_with fail;with_reducible refine (bT.out _).mono ?_
  rintro e mc ⟨rfl,rfl⟩;go_wp2_with fail;go_ret;exact⟨rfl,aI.out⟩
def NP:bk→Prop
 |.nil=>True
 |.cons _ b s r=>(∀c∈b.l,0<c.length)∧NP s∧NP r
def Full(s:eg):Prop:=(∀c∈s.b.l,0<c.length)∧NP s.p
structure lQ where
 B:Nat
 o:Nat
 b:dm
 s:bk
def Gh(S:afp)(w0 x:aeo)(d:lQ):Prop:=∃cs t pl cl pp cp,x.heap[d.B]?=some (.cells cs t (0,0))∧(t=dB∨t=eP)∧(cs.toList.drop d.o).take 10=lF d.b (ad pl d.b.l.length cl) (ad pp d.s.len cp)∧dE S w0 pl cl pp cp ⟨d.b,d.s⟩
def NQ(R:afp)(x:aeo)(d:lQ):Prop:=∃cs t pl cl pp cp,x.heap[d.B]?=some (.cells cs t (0,0))∧(cs.toList.drop d.o).take 10=lF d.b (ad pl d.b.l.length cl) (ad pp d.s.len cp)∧dE R x pl cl pp cp ⟨d.b,d.s⟩
def NR(d e:lQ):Prop:=d.B≠e.B∨d.o+10≤e.o∨e.o+10≤d.o
def NS(ps:List lQ)(k i:Nat):Prop:=∃d∈ps,d.B=k∧(i=d.o+8∨i=d.o+9)
abbrev ow:TypeId:=187
structure iq(ps:List lQ)(x y:aeo):Prop where
 size:x.heap.size≤y.heap.size
 cells:∀k cs t,x.heap[k]?=some (.cells cs t (0,0))→t≠ow→∃kv,y.heap[k]?=some (.cells kv t (0,0))∧kv.size=cs.size∧∀i,¬NS ps k i→kv[i]?=cs[i]?
theorem iq.refl(ps:List lQ)(x:aeo):iq ps x x:=⟨bx _,fun k cs t h _=>⟨cs,h,rfl,fun _ _=>rfl⟩⟩
theorem iq.trans{ps jK:List lQ}{x y z:aeo}(h:iq ps x y)(g:iq jK y z)(aR:∀k i,k<x.heap.size→NS jK k i→NS ps k i):iq ps x z where
 size:=dx h.size g.size
 cells:=fun k cs t aK bE=>by have aA:=lt_of_heap aK;obtain⟨R4,av,az,aC⟩:=h.cells k cs t aK bE;obtain⟨xd,g1,g2,g3⟩:=g.cells k R4 t av bE;exact⟨xd,g1,g2.trans az,fun i hi=>(g3 i fun NT=>hi (aR k i aA NT)).trans (aC i hi)⟩
variable{ps:List lQ}
theorem iq.ai1{x y:aeo}{T:afp}(h:aP (fun k=>¬T k) x y)(fC:∀k cs t,T k→x.heap[k]?=some (.cells cs t (0,0))→t=ow):iq ps x y:=⟨h.size,fun k cs t aK bE=>⟨cs,h.get (fun ay=>bE (fC k cs t ay aK)) aK,rfl,fun _ _=>rfl⟩⟩
theorem iq.dW{x y:aeo}(h:ao x x y):iq ps x y:=⟨h.size,fun k cs t aK _=>⟨cs,aU aK h,rfl,fun _ _=>rfl⟩⟩
theorem iq.set{x:aeo}{i:Nat}(u:ada)(h:NS ps k i):iq ps x (x.setCell (aj k i) u) where
 size:=by simp[World.setCell]
 cells:=fun p3 cs t aK _=>by
  by_cases e:p3=k
  ·subst e;refine⟨cs.setIfInBounds i u,dt u aK,by simp,fun j cd=>?_⟩;rw[yN,aW];rintro rfl;exact cd h
  ·exact⟨cs,(iK e).trans aK,rfl,fun _ _=>rfl⟩
variable{cs:ajv}
theorem iq.get{x y:aeo}(h:iq ps x y){t:aai}(aK:x.heap[k]?=some (.cells cs t (0,0)))(bE:t≠ow)(hn:∀d∈ps,d.B≠k):y.heap[k]?=some (.cells cs t (0,0)):=by
 obtain⟨kv,av,az,aC⟩:=h.cells k cs t aK bE;have e:kv=cs:=by apply Rf;intro i;exact aC i fun⟨d,hd,e,_⟩=>hn d hd e
 rw[av,e]
theorem h4.fr{R:afp}{x y:aeo}{p:Ja}{l:List b3}(h:h4 R x p l)(hf:iq ps x y)(hn:∀k,R k→∀d∈ps,d.B≠k):h4 R y p l:=by refine⟨h.1,fun aA=>?_⟩;obtain⟨b,o,cs,rfl,bK,aK,hc⟩:=h.2 aA;exact⟨b,o,cs,rfl,bK,hf.get aK (by decide) (hn b bK),hc⟩
theorem iB.fr{R:afp}{ps:List lQ}{x y:aeo}{p:Ja}{l:List (List b3)}(h:iB R x p l)(hf:iq ps x y)(hn:∀k,R k→∀d∈ps,d.B≠k):iB R y p l:=by refine⟨h.1,fun aA=>?_⟩;obtain⟨b,o,cs,rfl,bK,aK,hc⟩:=h.2 aA;refine⟨b,o,cs,rfl,bK,hf.get aK (by decide) (hn b bK),fun i hi=>?_⟩;obtain⟨q,c,aR,qe,bm⟩:=hc i hi;exact⟨q,c,aR,qe,bm.fr hf hn⟩
def kids(N:Nat):Nat→bk→List lQ
 |_,.nil=>[]
 |m,.cons _ b s r=>⟨N,m+1,b,s⟩::kids N (m+11) r
theorem Jx(N:Nat):∀(s:bk) (m:Nat),(kids N m s).length=s.len
 |.nil,_=>rfl
 |.cons _ _ _ r,m=>by simp[kids,bk.len,Jx N r]
theorem NU{N:Nat}:∀{s:bk} {m:Nat} {d:lQ},d∈kids N m s→d.B=N∧m+1≤d.o∧d.o+10≤m+s.len *11
 |.nil,m,d,h=>by simp[kids] at h
 |.cons a b s r,m,d,h=>by
  rcases List.mem_cons.1 h with rfl|h
  ·refine⟨rfl,bx _,?_⟩;show m+1+10≤m+(r.len+1) *11;omega
  ·obtain⟨av,az,aC⟩:=NU h;refine⟨av,by omega,?_⟩;show d.o+10≤m+(r.len+1) *11;omega
theorem YH(N:Nat):∀(s:bk) (m:Nat),(kids N m s).Pairwise NR
 |.nil,_=>List.Pairwise.nil
 |.cons a b s r,m=>by refine List.Pairwise.cons (fun d hd=>?_) (YH N r (m+11));obtain⟨av,az,aC⟩:=NU hd;exact .inr (.inl (by show m+1+10≤d.o;omega))
theorem ai2(l:aev)(m:Nat)(v:ada)(h:l[m]?=some v)(k:Nat):(l.drop m).take (k+1)=v::(l.drop (m+1)).take k:=by obtain⟨aA,rfl⟩:=List.getElem?_eq_some_iff.1 h;rw[lD aA,H6]
theorem YI{S:afp}{w0 x:aeo}{N:Nat}{cs:ajv}(aK:x.heap[N]?=some (.cells cs eP (0,0))):∀{s:bk} {m:Nat},ds S w0 s (cs.toList.drop m)→∀d∈kids N m s,Gh S w0 x d
 |.nil,m,h,d,hd=>by simp[kids] at hd
 |.cons a b s r,m,h,d,hd=>by
  rcases List.mem_cons.1 hd with rfl|hd
  ·obtain⟨pl,cl,pp,cp,av,hs⟩:=h.head;refine⟨cs,eP,pl,cl,pp,cp,aK,.inr rfl,?_,hs⟩;show (cs.toList.drop (m+1)).take 10=_;have az:=fp (List.drop 1) av;rw[Fp,si] at az;exact az
  ·refine YI aK (m:=m+11) ?_ d hd;have:=h.tail
   rwa [si] at this
theorem YJ{R:afp}{x:aeo}{N:Nat}{cs kv:ajv}{S:afp}{w0:aeo}(aK:x.heap[N]?=some (.cells kv eP (0,0))):∀{s:bk} {m:Nat},ds S w0 s (cs.toList.drop m)→(∀i,i%11=m%11→m≤i→i<m+s.len *11→kv[i]?=cs[i]?)→(∀d∈kids N m s,NQ R x d)→ds R x s (kv.toList.drop m)
 |.nil,m,h,hc,hd=>trivial
 |.cons a b s r,m,h,hc,hd=>by
  obtain⟨tN,awc,awd,awe,av,_⟩:=h.head;obtain⟨xd,t,pl,cl,pp,cp,a7,bf,hs⟩:=hd ⟨N,m+1,b,s⟩ (by simp[kids]);have NV:x.heap[N]?=some (.cells xd t (0,0)):=a7;rw[aK] at NV;injection NV with NV;injection NV with cM _;subst cM;have hm:kv[m]?=some (U a):=(by rw[hc m rfl (bx _) (by show m<m+(r.len+1) *11;omega)];have aC:=fp (fun l:List Value=>l[0]?) av;simp only[sg,yg,List.getElem?_cons_zero] at aC;simpa using aC);refine ds.mk (pl:=pl) (cl:=cl) (pp:=pp) (cp:=cp) ?_ hs ?_
  ·rw[ai2 kv.toList m (U a) (by simpa using hm) 10];exact fp _ bf
  ·rw[si];refine YJ aK (cs:=cs) (m:=m+11) (S:=S) (w0:=w0) ?_ (fun i bt cr c4=>hc i (by omega) (by omega) (by show i<m+(r.len+1) *11;omega)) (fun d gD=>hd d (by simp[kids,gD]));have:=h.tail
   rwa [si] at this
theorem YK{N:Nat}:∀{s:bk} {m:Nat},NP s→∀d∈kids N m s,Full ⟨d.b,d.s⟩
 |.nil,m,h,d,hd=>by simp[kids] at hd
 |.cons a b s r,m,h,d,hd=>by
  rcases List.mem_cons.1 hd with rfl|hd
  ·exact⟨h.1,h.2.1⟩
  ·exact YK h.2.2 d hd
abbrev NW:Obj:=.cells #[I 0,I 0,I 0,I 0,I 0,I 0,I 0,I 0,J 0,J 0] dB
abbrev rK(d:lQ):Value:=.pointer (some (aj d.B d.o))
structure xj(S:afp)(w0:aeo)(root:lQ)(ps:List lQ)(sv:ada)(x:aeo):Prop where
 aX:ao w0 w0 x
 row:x.ownsRow w0.heap.size ow 1 sv ps.length (ps.map rK)
 at_:∀d∈ps,Gh S w0 x d
 low:∀d∈ps,w0.heap.size≤d.B∧d.B≠w0.heap.size+1
 full:∀d∈ps,Full ⟨d.b,d.s⟩
 ap:ps.Pairwise NR
 res:x.heap[w0.heap.size+1]?=some NW
 YL:∀Gi,iq ps x Gi→(∀d∈ps,NQ (fun k=>w0.heap.size≤k∧k≠w0.heap.size+1) Gi d)→NQ (fun k=>w0.heap.size≤k∧k≠w0.heap.size+1) Gi root
theorem YM{kv:ajv}(h:∀i,o≤i→i<o+10→kv[i]?=cs[i]?):(kv.toList.drop o).take 10=(cs.toList.drop o).take 10:=by
 apply FJ;intro n;simp only[sg,yg];by_cases hn:n<10
 ·rw[bb hn,bb hn];simpa using h (o+n) (by omega) (by omega)
 ·rw[aW hn,aW hn]
variable{S:afp}{root:lQ}
theorem xj.next{w0:aeo}{d:lQ}{sv sv':ada}{x y:aeo}{ql pn:Ja}{dl N cn:Nat}{St csN:ajv}{DM:aai}{R1:afp}(h:xj S w0 root (ps++[d]) sv x)(ai3:iq (ps++[d]) x y)(ax:ao w0 w0 y)(eD:y.ownsRow w0.heap.size ow 1 sv' (ps++kids N 0 d.s).length ((ps++kids N 0 d.s).map rK))
  (eX:∀e∈ps,Gh S w0 y e) (dA:y.heap[w0.heap.size+1]?=some NW) (hd:y.heap[d.B]?=some (.cells St DM (0,0))) (NX:DM≠ow) (gD:(St.toList.drop d.o).take 10=lF d.b (ad ql d.b.l.length dl) (ad pn d.s.len cn))
  (hc:iB R1 y ql d.b.l) (pY:∀k,R1 k→(w0.heap.size≤k∧k≠w0.heap.size+1)∧k≠N∧∀e∈ps,e.B≠k) (zZ:d.b.l.length≤dl) (CS:d.s.len≤cn) (Ju:d.s.len≤n9) (awf:x.heap.size≤N)
  (hZ:0<d.s.len→pn=some ⟨N,0,none⟩∧y.heap[N]?=some (.cells csN eP (0,0))∧ds S w0 d.s csN.toList):xj S w0 root (ps++kids N 0 d.s) sv' y:=by
 have mE:=lt_of_heap h.res;have bR:∀e∈ps++[d],e.B<x.heap.size:=fun e he=>by obtain⟨cs,t,_,_,_,_,av,_⟩:=h.at_ e he;exact lt_of_heap av
 have Jy:∀e∈kids N 0 d.s,e.B=N:=fun e he=>(NU he).1;have NY:=h.full d (by simp);have NM:=List.pairwise_append.1 h.ap;refine⟨ax,eD,fun e he=>?_,fun e he=>?_,fun e he=>?_,?_,dA,fun Gi NZ yG=>?_⟩
 ·rcases List.mem_append.1 he with he|he
  ·exact eX e he
  ·rcases Fl d.s.len with aS|aS
   ·have:(kids N 0 d.s).length=0:=(by rw[Jx,aS]);rw[mT this] at he;simp at he
   ·obtain⟨_,az,aC⟩:=hZ aS;exact YI az (m:=0) aC e he
 ·rcases List.mem_append.1 he with he|he
  ·exact h.low e (by simp[he])
  ·rw[Jy e he];have:=h.aX.size;omega
 ·rcases List.mem_append.1 he with he|he
  ·exact h.full e (by simp[he])
  ·exact YK NY.2 e he
 ·refine List.pairwise_append.2 ⟨NM.1,YH N d.s 0,fun e he f hf=>.inl ?_⟩;rw[Jy f hf];have:=bR e (by simp[he]);omega
 ·have ai4:∀k,R1 k→∀e∈ps++kids N 0 d.s,e.B≠k:=fun k ay e he=>by
   obtain⟨_,az,aC⟩:=pY k ay;rcases List.mem_append.1 he with he|he
   ·exact aC e he
   ·rw[Jy e he];exact gu az
  refine h.YL Gi (ai3.trans NZ fun k i ay ⟨e,he,a7,bf⟩=>?_) fun e he=>?_
  ·rcases List.mem_append.1 he with he|he
   ·exact⟨e,by simp[he],a7,bf⟩
   ·rw[Jy e he] at a7;omega
  ·rcases List.mem_append.1 he with he|he
   ·exact yG e (by simp[he])
   ·obtain rfl:e=d:=(by simpa using he);obtain⟨kv,g1,g2,g3⟩:=NZ.cells e.B St DM hd NX;refine⟨kv,DM,ql,dl,pn,cn,g1,(YM fun i av az=>g3 i fun⟨f,hf,f1,f2⟩=>?_).trans gD,⟨(hc.fr NZ ai4).mono fun k _ ay=>(pY k ay).1,⟨Ju,fun aS=>?_⟩,zZ,CS⟩⟩
    ·rcases List.mem_append.1 hf with hf|hf
     ·rcases NM.2.2 f hf e (by simp) with cr|cr|cr
      ·exact cr f1
      ·rcases f2 with rfl|rfl<;>omega
      ·rcases f2 with rfl|rfl<;>omega
     ·rw[Jy f hf] at f1;have:=bR e (by simp);omega
    ·obtain⟨en,fa,n3⟩:=hZ aS;obtain⟨xd,bO,ba,p0⟩:=NZ.cells N csN eP fa (by decide);refine⟨N,0,xd,en,?_,bO,?_⟩
     ·have:=h.aX.size;show w0.heap.size≤N∧N≠w0.heap.size+1;omega
     ·refine YJ bO (cs:=csN) (m:=0) (S:=S) (w0:=w0) n3 (fun i av az bt=>p0 i fun⟨f,hf,f1,f2⟩=>?_) fun f hf=>yG f (by simp[hf]);rcases List.mem_append.1 hf with hf|hf
      ·have:=bR f (by simp[hf]);omega
      ·obtain⟨_,cw,ei⟩:=NU hf
       have hm:∀{s:bk} {m:Nat},f∈kids N m s→f.o%11=(m+1)%11:=by
        intro s
        induction s with
        |nil=>intro m hf;simp[kids] at hf
        |cons a b s r _ cO=>
         intro m hf;rcases List.mem_cons.1 hf with rfl|hf
         ·rfl
         ·rw[cO hf];omega
       have:=hm hf;rcases f2 with rfl|rfl<;>omega
theorem xj.fin{w0:aeo}{sv:ada}{x:aeo}(h:xj S w0 root [] sv x):NQ (fun k=>w0.heap.size≤k∧k≠w0.heap.size+1) x root:=h.YL x (iq.refl _ _) fun d hd=>by simp at hd
theorem ai5{P:Program}(w:aeo)(YN ai6 ty elem:aai)(g o Su ai7:Nat)(a:Addr)(Sv ai8 bD:Nat)(cur:ajv)(t:aai)(cs:aev)
  (hu:P.underlying YN=some (.slice elem)) (hs:(P.info? elem).map (·.size)=some bD)
  (aF:w.heap[g]?=some (.cells cur t (0,0))) (hn:cs.length=Nat.min Sv Su *bD)
  (ai9:∀j v,cs[j]?=some v→w.cell? (a.add j)=some v) (aja:o+cs.length≤cur.size) (av:∀v∈cs,v.oneCell'=true):
  (Builtin.copy_ #[YN,ai6] ty #[ag g o Su ai7,ad (some a) Sv ai8]).run P w=
   .ok (goInt (Nat.min Sv Su)) (w.setRow g (cur.toList.take o++cs++cur.toList.drop (o+cs.length)).toArray):=by
 have aA:=run_loadCells_list (P:=P) w a cs ai9;have kK:=run_storeCells_at P g o t cs 0 cur w aF (by simpa using aja) av;cases aR:P.info? elem with
 |none=>simp[aR] at hs
 |some i=>
  have hi:i.size=bD:=(by simpa[aR] using hs);simp[Builtin.copy_,jC hu,Builtin.lenOf,Builtin.firstCells,sizeOf,typeInfo,aR,hi,←hn,aA,kK]
def kL(ps:List lQ):Nat:=(ps.map fun d=>d.s.count+1).sum
theorem YO(ps:List lQ)(d:lQ):kL (ps++[d])=kL ps+(d.s.count+1):=by simp[kL]
theorem Sw(N:Nat):∀(s:bk) (m:Nat),kL (kids N m s)=s.count
 |.nil,_=>rfl
 |.cons a b s r,m=>by show (s.count+1)+kL (kids N (m+11) r)=s.count+r.count+1;rw[Sw N r];omega
theorem YP(ps jK:List lQ):kL (ps++jK)=kL ps+kL jK:=by simp[kL]
theorem Gj{v0 v1 v2 v3 v4 v5 v6 cj cD v9:ada}(h:(cs.toList.drop o).take 10=[v0,v1,v2,v3,v4,v5,v6,cj,cD,v9]):∀j,j<10→cs[o+j]?=[v0,v1,v2,v3,v4,v5,v6,cj,cD,v9][j]?:=by intro j cd;rw[←h,sg,bb cd,yg];simp
theorem ajb(k:iD)(w:aeo):(Instr.lookup 185 (.map none) (.agg #[ah k.1 k.2.1,I (k.2.2:Int)]) true).run Tryz.prog w=.ok (.tuple #[J 0,U false]) w:=by
 have Jl:∀(x:Addr) (y:ada),(part 190 #[.pointer (some x),y] 0).run Tryz.prog w=.ok (.pointer (some x)) w:=fun x y=>by simp[part,jC F']
 have b3:∀(x:ada) (y:Int),(part 3 #[x,I y] 1).run Tryz.prog w=.ok (I y) w:=fun x y=>by simp[part,jC vv]
 have key:∀(D d:Nat) (em:Bool),D=d+1+1→(Instr.checkKey em D 192 (.agg #[ah k.1 k.2.1,I (k.2.2:Int)])).run Tryz.prog w=.ok () w:=by intro D d em b2;subst b2;have R7:∀x:Addr,(Instr.checkKey em (d+1) 190 (.pointer (some x))).run Tryz.prog w=.ok () w:=(fun x=>by simp[Instr.checkKey,jC F']);have R8:∀x:Int,(Instr.checkKey em (d+1) 3 (I x)).run Tryz.prog w=.ok () w:=(fun x=>by simp[Instr.checkKey,jC vv]);rw[Instr.checkKey];simp only[jC Tryz.underlying192,zV,uZ];simp[Jl,b3,R7,R8]
 have BJ:=key 10000 9998 true (by decide);simp[Instr.lookup,jC Tryz.underlying185,BJ,Instr.findKey,jC Tryz.underlying192,Instr.findNow,Result.andThen]
theorem iq.mono{jK:List lQ}{x y:aeo}(h:iq ps x y)(aR:∀d∈ps,d∈jK):iq jK x y:=
 ⟨h.size,fun k cs t aK bE=>by obtain⟨kv,av,az,aC⟩:=h.cells k cs t aK bE;exact⟨kv,av,az,fun i hi=>aC i fun⟨d,hd,e⟩=>hi ⟨d,aR d hd,e⟩⟩⟩
theorem Gh.fr{w0 x y:aeo}{d e:lQ}(h:Gh S w0 x e)(hf:iq [d] x y)(ha:NR e d):Gh S w0 y e:=by
 obtain⟨cs,t,pl,cl,pp,cp,av,az,aC,bt⟩:=h;have bE:t≠ow:=by rcases az with rfl|rfl<;>decide
 obtain⟨kv,g1,g2,g3⟩:=hf.cells _ _ _ av bE;refine⟨kv,t,pl,cl,pp,cp,g1,az,(YM fun i bA a2=>g3 i fun⟨f,tG,f1,f2⟩=>?_).trans aC,bt⟩;obtain rfl:f=d:=by simpa using tG
 rcases ha with cr|cr|cr
 ·exact cr f1.symm
 ·rcases f2 with rfl|rfl<;>omega
 ·rcases f2 with rfl|rfl<;>omega
theorem ds.long{S:afp}{w:aeo}:∀{s:bk} {xs:aev},ds S w s xs→s.len *11≤xs.length∧∀v∈xs.take (s.len *11),v.oneCell'=true
 |.nil,xs,_=>⟨by simp[bk.len],fun v aY=>by simp[bk.len] at aY⟩
 |.cons a b s r,xs,h=>by
  obtain⟨pl,cl,pp,cp,av,_⟩:=h.head;obtain⟨az,aC⟩:=ds.long h.tail;have aA:=fp List.length av;simp only[kU,fY,tj] at aA;have FA:11≤xs.length:=(by omega);rw[fH] at az;refine⟨by show (r.len+1) *11≤_;omega,fun v aY=>?_⟩;rw[show (bk.cons a b s r).len *11=11+r.len *11 by show (r.len+1) *11=_;omega,List.take_add,av] at aY;rcases List.mem_append.1 aY with aY|aY
  ·simp only[Sd,Se,or_false] at aY;rcases aY with rfl|rfl|rfl|rfl|rfl|rfl|rfl|rfl|rfl|rfl|rfl<;>rfl
  ·exact aC v aY
theorem YQ{N:Nat}:∀{s:bk} {m j:Nat} {e:lQ},(kids N m s)[j]?=some e→rK e=.pointer (some (aj N (m+j *11+1)))
 |.nil,m,j,e,h=>by simp[kids] at h
 |.cons a b s r,m,0,e,h=>by have:e=⟨N,m+1,b,s⟩:=(by simpa[kids] using h.symm);subst this;simp
 |.cons a b s r,m,j+1,e,h=>by
  have az:=YQ (s:=r) (m:=m+11) (j:=j) (e:=e) (by simpa[kids] using h);rw[az]
  congr 3
  omega
theorem YR{b:dm}{cD v9 u8 u9:ada}(h:(cs.toList.drop o).take 10=lF b cD v9):(((cs.setIfInBounds (o+8) u8).setIfInBounds (o+9) u9).toList.drop o).take 10=lF b u8 u9:=by
 have hc:=Gj h;have iF:o+10≤cs.size:=by have fM:=hc 9 (by decide);have:=(Array.getElem?_eq_some_iff.1 (show cs[o+9]?=some v9 from fM)).1;omega
 apply FJ;intro n;rw[sg,yg];by_cases hn:n<10
 ·rw[bb hn,vw,yN,yN];have aS:=hc n hn;rcases (show n=0∨n=1∨n=2∨n=3∨n=4∨n=5∨n=6∨n=7∨n=8∨n=9 by omega) with rfl|rfl|rfl|rfl|rfl|rfl|rfl|rfl|rfl|rfl
  all_goals first
   |(rw[aW (by omega),aW (by omega),aS];rfl)
   |(rw[aW (by omega),bb rfl,bb (by omega)];rfl)
   |(rw[bb rfl,bb (by simp;omega)];rfl)
 ·rw[aW hn];rw[Xl];simp only[fY,tj];omega
end dd
