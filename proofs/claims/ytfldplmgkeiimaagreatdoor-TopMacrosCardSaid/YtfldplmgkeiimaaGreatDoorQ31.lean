/- Lemmas. -/
import Derived.Test.YtfldplmgkeiimaaGreatDoorQ30
set_option linter.all false
set_option maxRecDepth 100000
set_option maxHeartbeats 25600000
namespace Go.Proofs.YtfldplmgkeiimaaGreatDoor
namespace c4
open Go.RowKit dH
open bS (C eg)
open gT (kS iX IL Mg Mh eW fG)
structure Dl(c:C):Prop where
 k:yz c.k c.n
 nl:c.b6.length≤1000000000
 s3:∀x∈c.b6,-4611686018427387904≤x∧x≤4611686018427387904
 st:∀i,(nk c.x c.y c.i c.j i).length≤1000000000
def Mj(c:C):Prop:=c.k=10→∀(w0 Z:aeo) (B:Nat) (nq:Ja) (mK:Nat) (u:Int) (ms:List jz),eW B Z nq c.b6→FE w0 Z c.t c.b6 nq mK u ms
def qQ:List C→cH→Prop
 |[],_=>True
 |c::l,p=>(c.k=10→∀(w0 Z:aeo) (B:Nat) (nq:Ja) (mK:Nat),eW B Z nq c.b6→FE w0 Z c.t c.b6 nq mK p.unit p.fB)∧∀q,j' p c=.ok q→qQ l q
theorem qQ.of:∀{l:List C} (p:cH),(∀c∈l,Mj c)→qQ l p
 |[],_,_=>trivial
 |c::l,p,h=>⟨fun ax w0 Z B nq mK hn=>h c (by simp) ax w0 Z B nq mK _ _ hn,fun q _=>qQ.of q fun d hd=>h d (by simp[hd])⟩
abbrev VB:Value:=.agg #[U false,I 0,I 0,I 0,I 0,I 0,J 0]
theorem arI:(Tryz.prog.info? oz).map (fun i=>(i.zero,i.size,i.bytes))=some (some VB,7,72):=by kernel_rfl
variable{w:aeo}
theorem gr.arJ{w0:aeo}{P:Nat}{R:afp}{m:Nat}{L:rp}{fu:Int}{cv ov:ada}{cx ox:aev}{p:cH}(h:gr w0 P R m L fu cv ov cx ox p w):tC w0 ov p.top.fc w:=⟨R,ox,h.aB,h.tH,h.nN,fun k e ax=>(h.mH k ax).Li e,h.aZ⟩
theorem aec{B:Nat}{p:Ja}{l:List (Nat×C)}(h:IL B w p l){j:Nat}(cr:j<l.length){a:Nat}{c:C}(he:l[j]=(a,c)):∃b o bW bU cj a7,p=some ⟨b,o,none⟩∧b<w.heap.size∧Mg w b (o+j *12) c (a:Int) (ad bW c.b6.length bU) (ad cj c.blocks.length a7)∧eW B w bW c.b6∧fG B w cj c.blocks:=by obtain⟨b,o,cur,rfl,_,aJ,hc⟩:=h (by omega);obtain⟨q,r,k,m,av,az,aF⟩:=hc j cr;rw[he] at av az aF;exact⟨b,o,_,_,_,_,rfl,lt_of_heap aJ,Mh aJ av,az,aF⟩
theorem arK(w:aeo):(Instr.makeSlice 159 (I 1) (I 1)).run Tryz.prog w=.ok (ag w.heap.size 0 1 1) (w.alloc (ai (#[U false,I 0,I 0,I 0,I 0,I 0,J 0]) oz)):=by
 have h:=AF (P:=Tryz.prog) 159 oz VB 7 72 Tryz.underlying159 arI 1 (by decide) (by decide) w;have e:madeCells VB.cells (1 *7)= #[U false,I 0,I 0,I 0,I 0,I 0,J 0]:=by kernel_rfl
 rw[e] at h;exact h
theorem vp{y:aeo}{b i:Nat}{v:ada}(ay:b<w.heap.size)(h:ao w w y)(hc:ak w b i v):ak y b i v:=(h.cell (p:=⟨b,i,none⟩) ay).trans hc
def IM(w:aeo)(r:List dx×Nat×Nat)(e:Ending)(w':aeo):Prop:=Below w.heap.size w w'∧∃q d,e=ab (.tuple #[ad q r.1.length d,I (r.2.1:Int),I (r.2.2:Int)])∧h9 (fun k=>w.heap.size≤k) w' q r.1
def VC(l:List C)(j:Nat):Except Nat cH→Except (Nat×Nat) cH
 |.error e=>.error (j,e)
 |.ok q=>lr l (j+1) q
theorem arL(c:C)(l:List C)(i:Nat)(p:cH):lr (c::l) i p=VC l i (j' p c):=by unfold lr VC;split<;>rename_i h<;>rw[h]
def Qf(n:Nat):Except (Nat×Nat) cH→List dx×Nat×Nat
 |.error (i,e)=>([],i,e)
 |.ok p=>if p.ended=false then ([],n,11) else (p.top.fc,0,0)
theorem arM(l:List C)(b:Int):xn l b=Qf l.length (lr l 0 (qZ b)):=by unfold xn Qf;split<;>rename_i h<;>rw[h]
theorem arN(bu:Int):Inv 0 (qZ bu):=by
 refine⟨⟨fun v aS=>?_,fun k a ha=>?_,oJ _,by show (0:Int)≤100000;decide,by show min (max bu 0) 100000≤100000;omega,eE _,?_,eE _⟩,bx _,rfl,rfl⟩
 ·have:v=GJ:=(by simpa[qZ] using aS);subst this;exact⟨oJ _,oJ _,by decide,oJ _,by decide,by decide,by decide,by decide,by decide⟩
 ·cases ha
 ·exact⟨by show (-536870912:Int)≤0;decide,by show (0:Int)≤536870912;decide,by show (-536870912:Int)≤0;decide,by show (0:Int)≤536870912;decide⟩
theorem arO(B:Nat)(l:List (Nat×C))(pp:Ja)(n cap:Nat)(hn:n=l.length)(bu:Int)(w:aeo)(H:af (IL B w pp l))(hlen:l.length≤500000)(eC:∀x∈l,Dl x.2)(uw:qQ (l.map Prod.snd) (qZ bu))(res:List dx×Nat×Nat)(dQ:af (xn (l.map Prod.snd) bu=res)):
  Calls Tryz.prog 40 #[ad pp n cap,I bu] w fun e w'=>IM w res e w':=by
 have bf:=aq hn;have uI:n≤500000:=by rw[hn];exact hlen
 obtain⟨T,eS⟩:=ar (lr (l.map Prod.snd) 0 (qZ bu));have yr:af (Qf n T=res):=by rw[←dQ.out,←eS,arM,e6,hn];exact rfl
 have c9:af (lr ((l.map Prod.snd).drop 0) 0 (qZ bu)=T):=eS;have nP:=aq eC;have aed:af (qQ ((l.map Prod.snd).drop 0) (qZ bu)):=uw;clear hn hlen dQ eS eC uw;have nK:=@run_makeMap Tryz.prog;have uw:=fun x=>arK x;go_enter Tryz.func40,Tryz.ntmps40;go_upto_region 2 with fail;obtain⟨W,br⟩:=ar (((w.alloc (.map #[] 0)).alloc (ai (#[U false,I 0,I 0,I 0,I 0,I 0,J 0]) oz)).alloc (ai (#[I 0,I 0,I 0,I 0,U false,U false,.map (some w.heap.size),I 0,J 0,I 0,I 0,I 1,U false,U true,U false,U false,I 0,I 0,I 0,U false,J 0,ad (some (aj (w.heap.size+1) 0)) 1 1,I 0,I (min (max bu 0) 100000),U false]) zG))
 have By:af (o' w (w.heap.size+1+1) (qZ bu) W):=by
  have s1:(w.alloc (.map #[] 0)).heap.size=w.heap.size+1:=qf _;have s2:((w.alloc (.map #[] 0)).alloc (ai (#[U false,I 0,I 0,I 0,I 0,I 0,J 0]) oz)).heap.size=w.heap.size+1+1:=(qf _).trans (fK (· +1) s1);have bE:((w.alloc (.map #[] 0)).alloc (ai (#[U false,I 0,I 0,I 0,I 0,I 0,J 0]) oz)).heap[w.heap.size+1]?=some (.cells #[U false,I 0,I 0,I 0,I 0,I 0,J 0] oz):=(by have:=cd (w.alloc (.map #[] 0)) (ai (#[U false,I 0,I 0,I 0,I 0,I 0,J 0]) oz);rw[s1] at this;exact this);have a2:an W (w.heap.size+1+1) (#[I 0,I 0,I 0,I 0,U false,U false,.map (some w.heap.size),I 0,J 0,I 0,I 0,I 1,U false,U true,U false,U false,I 0,I 0,I 0,U false,J 0,ad (some (aj (w.heap.size+1) 0)) 1 1,I 0,I (min (max bu 0) 100000),U false]) zG:=(by have:=cd ((w.alloc (.map #[] 0)).alloc (ai (#[U false,I 0,I 0,I 0,I 0,I 0,J 0]) oz)) (ai (#[I 0,I 0,I 0,I 0,U false,U false,.map (some w.heap.size),I 0,J 0,I 0,I 0,I 1,U false,U true,U false,U false,I 0,I 0,I 0,U false,J 0,ad (some (aj (w.heap.size+1) 0)) 1 1,I 0,I (min (max bu 0) 100000),U false]) zG);rw[s2,br] at this;exact this);have a0:W.heap[w.heap.size]?=some (.map #[] 0):=(by rw[←br];exact aU (aU (cd w _) (a' _ _)) (a' _ _));have a3:an W (w.heap.size+1) (#[U false,I 0,I 0,I 0,I 0,I 0,J 0]) oz:=(by rw[←br];exact aU bE (a' _ _));have ay:ao w w W:=by rw[←br];exact (a' _ _).trans (((a' _ _).trans ((a' _ _).mono (a' _ _).size)).mono (a' _ _).size)
  exact ⟨fun _=>False,w.heap.size,⟨w.heap.size+1,1,1, [], [], J 0, []⟩,0, J 0, J 0, [], [],{
   pl:=a2
   mp:=⟨#[],0,[],a0,rfl,fun k=>rfl⟩
   rq:=rfl
   gG:=⟨rfl,.inr ⟨w.heap.size+1,1,_,rfl,nX _,a3,bx _,by decide,rfl,rfl⟩⟩
   ni:=⟨rfl,rfl⟩
   zH:=fun k ax=>by cases ax
   Ba:=List.nodup_nil
   bF:=.nil _ _ _
   aB:=⟨rfl,.inl ⟨rfl,rfl⟩⟩
   tH:=trivial
   hC:=⟨rfl,.inl ⟨rfl,rfl⟩⟩
   yd:=rfl
   nN:=fun k h=>h.elim
   mH:=fun k h=>h.elim
   ye:=by omega
   zI:=bx _
   aZ:=ay}⟩
 rw[br];clear br nK uw;obtain⟨P,hv⟩:=ar (w.heap.size+1+1);rw[hv] at By⊢;clear hv;have aee:af (Inv 0 (qZ bu)):=arN bu;go_wp2_with fail
 go_loopw [20] (fun i wr=>∃(j:Nat) (p:cH) (aK:aeo),aK=wr∧j≤n∧i=I j∧af (lr ((l.map Prod.snd).drop j) j p=T∧qQ ((l.map Prod.snd).drop j) p)∧af (Inv j p)∧af (o' w P p aK)) (fun i _=>n -(intOf i).toNat)
 case atStart=>exact⟨0,_,_,rfl,eE _,rfl,⟨c9.out,aed.out⟩,aee.out,By.out⟩
 case round=>
 obtain⟨j,p,aK,rfl,cr,rfl,VD,IN,C1⟩:=hrel;have Qg:=aq VD.out.1;have arP:=aq VD.out.2;clear c9 aee By aed VD;have jv:af (ao w w aK):=by obtain⟨_,_,_,_,_,_,_,_,h⟩:=C1.out;exact h.aZ
 by_cases b1:j<n
 ·have fL:j<l.length:=(by rw[←bf.out];exact b1);have i':(j:Int)<(n:Int):=(by omega);obtain⟨⟨a,⟨e1,cn,cQ,dJ,bF,cx,bw,ci,IP,b6,h'⟩⟩,hc⟩:=ar (l[j]);obtain⟨b,o,nq,mK,me,zS,rfl,ll,eJ,Bi,qh⟩:=aec H.out fL hc;have FU:Dl ⟨e1,cn,cQ,dJ,bF,cx,bw,ci,IP,b6,h'⟩:=(by have h:=nP.out _ (mu fL);rw[hc] at h;exact h);obtain⟨cL,fv⟩:=ar b6.length;obtain⟨wQ,zQ⟩:=ar h'.length;have tT:(l.map Prod.snd).drop j=⟨e1,cn,cQ,dJ,bF,cx,bw,ci,IP,b6,h'⟩::(l.map Prod.snd).drop (j+1):=(by rw[lT (by rw[e6];exact fL),Ha,hc]);have c0:=arP.out;rw[tT] at c0;obtain⟨lC,zU⟩:=ar (j' p ⟨e1,cn,cQ,dJ,bF,cx,bw,ci,IP,b6,h'⟩);have mD:af (VC ((l.map Prod.snd).drop (j+1)) j lC=T):=(by show _=_;rw[←Qg.out,tT,arL,zU]);have IQ:∀x,ao aK aK x→Calls Tryz.prog 64 #[ah P 0,.agg #[I (a:Int),I e1,I cn,I cQ,U dJ,aa ⟨bF.toArray⟩,aa ⟨cx.toArray⟩,aa ⟨bw.toArray⟩,aa ⟨ci.toArray⟩,aa ⟨IP.toArray⟩,ad nq cL mK,ad me wQ zS]] x fun e w'=>jK w P lC e w':=(by intro x hx;have zC:ao w w x:=jv.out.trans (hx.mono jv.out.size);rw[←fv,←zQ];exact aqx w P p B j ⟨e1,cn,cQ,dJ,bF,cx,bw,ci,IP,b6,h'⟩ (a:Int) nq mK me zS x (C1.out.below hx) IN.out (by omega) (Bi.below zC) FU.nl FU.s3 (fG.mono qh (eE _)) FU.st (fun h=>c0.1 h w x B nq mK (Bi.below zC)) FU.k lC zU);have VE:=aq IQ;have arQ:af (∀q,lC=.ok q→qQ ((l.map Prod.snd).drop (j+1)) q):=fun q aH=>c0.2 q (zU.trans aH);have lH:af (∀k,lC=.error k→k≠0):=fun k ax=>arH IN.out.rg FU.k k (zU.trans ax);have eX:af (∀q,lC=.ok q→Inv (j+1) q):=fun q aH=>IN.out.do (by omega) FU.k (zU.trans aH);rw[fv,zQ] at eJ;obtain⟨bQ,bU,a7,il,rb,ri,E1,E2,E3,wA,E4,Mk⟩:=eJ;have d0:=vp ll jv.out bQ;have d1:=vp ll jv.out bU;have d2:=vp ll jv.out a7;have d3:=vp ll jv.out il;have d4:=vp ll jv.out rb;have d5:=vp ll jv.out ri;have d6:=vp ll jv.out E1;have d7:=vp ll jv.out E2;have d8:=vp ll jv.out E3;have d9:=vp ll jv.out wA;have d10:=vp ll jv.out E4;have d11:=vp ll jv.out Mk;clear tT zU IQ FU c0 Bi qh fv zQ bQ bU a7 il rb ri E1 E2 E3 wA E4 Mk Qg hc;obtain⟨ca,aef⟩:∃ca:Int,(a:Int)=ca:=⟨_,rfl⟩;obtain⟨Qh,aeg⟩:∃s:Ua,(⟨bF.toArray⟩:Ua)=s:=⟨_,rfl⟩;obtain⟨Qi,aeh⟩:∃s:Ua,(⟨cx.toArray⟩:Ua)=s:=⟨_,rfl⟩;obtain⟨Qj,aei⟩:∃s:Ua,(⟨bw.toArray⟩:Ua)=s:=⟨_,rfl⟩;obtain⟨Qk,aej⟩:∃s:Ua,(⟨ci.toArray⟩:Ua)=s:=⟨_,rfl⟩;obtain⟨Ql,aek⟩:∃s:Ua,(⟨IP.toArray⟩:Ua)=s:=⟨_,rfl⟩;rw[aef] at d0 VE;simp only[aeg,aeh,aei,aej,aek] at d5 d6 d7 d8 d9 VE;clear aef aeg aeh aei aej aek;go_upto_region 5 with fail;have cc:af (ao aK aK (aK.alloc (ai (#[I ca,I e1,I cn,I cQ,U dJ,aa Qh,aa Qi,aa Qj,aa Qk,aa Ql,ad nq cL mK,ad me wQ zS]) ic))):=a' _ _;have bz:af ((aK.alloc (ai (#[I ca,I e1,I cn,I cQ,U dJ,aa Qh,aa Qi,aa Qj,aa Qk,aa Ql,ad nq cL mK,ad me wQ zS]) ic)).heap[aK.heap.size]?=some (.cells #[I ca,I e1,I cn,I cQ,U dJ,aa Qh,aa Qi,aa Qj,aa Qk,aa Ql,ad nq cL mK,ad me wQ zS] ic)):=cd _ _;generalize aK.alloc (.cells #[I ca,I e1,I cn,I cQ,U dJ,aa Qh,aa Qi,aa Qj,aa Qk,aa Ql,ad nq cL mK,ad me wQ zS] ic)=gO at cc bz⊢;clear d0 d1 d2 d3 d4 d5 d6 d7 d8 d9 d10 d11;have d0:=cell_of (i:=0) bz.out rfl;have d1:=cell_of (i:=1) bz.out rfl;have d2:=cell_of (i:=2) bz.out rfl;have d3:=cell_of (i:=3) bz.out rfl;have d4:=cell_of (i:=4) bz.out rfl;have d5:=cell_of (i:=5) bz.out rfl;have d6:=cell_of (i:=6) bz.out rfl;have d7:=cell_of (i:=7) bz.out rfl;have d8:=cell_of (i:=8) bz.out rfl;have d9:=cell_of (i:=9) bz.out rfl;have d10:=cell_of (i:=10) bz.out rfl;have d11:=cell_of (i:=11) bz.out rfl;go_wp2_with fail;with_reducible refine (VE.out _ cc.out).mono ?_
  intro e cZ mJ;clear d0 d1 d2 d3 d4 d5 d6 d7 d8 d9 d10 d11 bz cc C1;cases lC with
  |error k=>
   obtain rfl:=mJ.err rfl;have mv:=aq mJ.1;have aP:af (Qf n (.error (j,k))=res):=(by rw[←yr.out,←mD.out];exact rfl);clear mJ;have q4:k≠0:=lH.out k rfl;have eI:(((k:Int) !=0):Bool)=true:=(by rw[xf];omega);go_wp2_with fail;go_ret3;rw[←aP.out];exact⟨mv.out,none,0,rfl,.nil _ _ _⟩
  |ok q=>
   obtain⟨rfl,vi⟩:=mJ.get rfl;have arR:=aq vi;have qM:af (lr ((l.map Prod.snd).drop (j+1)) (j+1) q=T):=mD.out;have PJ:=aq (eX.out q rfl);have te:=aq (arQ.out q rfl);clear mJ vi;go_wp2_with fail;go_round<;>first|exact⟨j+1,q,_,rfl,by omega,by go_num,⟨qM.out,te.out⟩,PJ.out,arR.out⟩|(simp[intOf]<;>omega)
 ·have iR:j=n:=(by omega);subst iR;have ael: .ok p=T:=(by have h:=Qg.out;rw[n2 (by rw[e6,bf.out];exact bx _)] at h;exact h);obtain⟨R,m,L,fu,cv,ov,cx,ox,h⟩:=C1.out;have H1:=aq h;obtain⟨jY,ID⟩:=ar p.ended;have aP:af ((if jY=false then ([],j,11) else (p.top.fc,0,0))=res):=(by rw[←yr.out,←ael,←ID];exact rfl);have Qa:ak aK P 24 (U jY):=(by rw[←ID];exact cell_of (i:=24) h.pl rfl);have Fe:p.levels.length=0:=(by rw[IN.out.gG];rfl);have Bb:ak aK L.b 6 ov:=(by have hJ:=(h.T5 Fe 6 (by decide)).1;rw[DK,kr] at hJ;exact hJ);have q7:L.n=1:=(by rw[h.rq,Fe]);obtain⟨ey,lM,lc,hY,hs,eK,bD⟩:=L;have Bb:ak aK ey 6 ov:=Bb;have q7:lM=1:=q7;subst q7;have Lk:ak aK P 21 (ad (some (aj ey 0)) 1 lc):=cell_of (i:=21) h.pl rfl;have wD:p.top.fc.length≤1000000:=IN.out.bG.aB;clear Fe;clear h ID ael Qg IN yr;cases jY with
  |false=>
   have eV:af (([],j,11)=res):=aP.out;go_wp2_with fail;go_ret3;rw[←eV.out];exact⟨jv.out,none,0,rfl,.nil _ _ _⟩
  |true=>
   have eV:af ((p.top.fc,0,0)=res):=aP.out;obtain⟨q,d,Qm,Ly⟩:=h9.own (R:=fun k=>w.heap.size≤k) H1.out.arJ (by show _≤1000000000;omega) (fun k h=>h);subst Qm;have x4:=aq Ly;clear Ly H1;go_wp2_with fail;go_ret3;rw[←eV.out];exact⟨jv.out,q,d,rfl,x4.out⟩
end c4
namespace uy
open dH bS c4
open gT (eW)
def yB(p:cz):hE:=⟨if p.d=true then 1 else 21,if p.d=true then[1,p.w,p.a,p.b] else[1,p.w,p.h,p.a,p.b,0],cz.cF 0 0 p⟩
theorem arS(p:cz):(yB p).hL=p.hL:=by unfold yB hE.hL cz.hL;cases p.d<;>simp[i6]
theorem arU(p:cz):k1 h1 (cz.cF 0 0 p)=cz.cF 0 0 p:=by have h:=YD (p:=p) 0 0;exact h
theorem arV{p:cz}(h:p.e7):(yB p).e7:=by
 have av:=h.w;have az:=h.h;have aF:=h.a;have bk:=h.b;have hs:=GP h (x:=0) (y:=0) (by unfold y2;omega);refine⟨?_,fun v aS=>?_,YA (arU p) hs hs⟩
 ·unfold yB cz.cF Prim;cases hd:p.d with
  |true=>
   simp only[sZ];exact .inl ⟨trivial,p.w,p.a,p.b,rfl,by omega,by simp⟩
  |false=>
   simp only[pq,yZ];exact .inr ⟨trivial,p.w,p.h,p.a,p.b,rfl,by omega,by omega,by simp[xl,lX]⟩
 ·unfold yB at aS;simp only at aS;split at aS
  ·simp only[vU,vV,uj] at aS;rcases aS with rfl|rfl|rfl|rfl<;>omega
  ·simp only[vU,vV,uj] at aS;rcases aS with rfl|rfl|rfl|rfl|rfl|rfl<;>omega
theorem VF:∀l:List cz,ie (l.map yB)=ft (l.map (cz.cF 0 0))
 |[]=>rfl
 |p::l=>by show bc.cons true (cz.cF 0 0 p) .nil (ie (l.map yB))=_;rw[VF l];rfl
theorem aem(l:List cz):(l.map yB).map hE.hL=l.map cz.hL:=by rw[Jt];exact Ng fun p _=>arS p
theorem aen{l:List cz}(h:∀p∈l,p.e7):∀m∈l.map yB,hE.e7 m:=fun m hm=>by obtain⟨p,hp,rfl⟩:=List.mem_map.1 hm;exact arV (h p hp)
abbrev Ml(l:List cz):dK:=⟨ew,ft (l.map (cz.cF 0 0))⟩
abbrev IS(l:List cz):List jz:=[⟨[84],l.map cz.hL⟩]
theorem VG{l:List cz}(h:∀p∈l,p.e7)(aA:l.length≤6):j9 [84] [] 1 (IS l)=.ok (Ml l,0):=by have e:=c4.Sd (l.map yB) (aen h) (by rw[e6];exact aA);rw[aem,VF] at e;exact e
variable{bu:Int}{l:List cz}{x y:Nat}
theorem VH(h:∀p∈l,p.e7)(r:List C):lr ((head l).map Prod.snd++r) 0 (qZ bu)=lr r (3+l.length) (fO bu (IS l) (Aw 0 l fun _=>none) 0 (0,0) [] 0):=by
 have e:(head l).map Prod.snd++r=D9.map Prod.snd++((rP l).2::((n8 0 l).map Prod.snd++r)):=by unfold head;simp
 rw[e];show lr ((rP l).2::((n8 0 l).map Prod.snd++r)) 2 (fO bu [] (fun _=>none) 0 (0,0) [] 0)=_;rw[Au (show j' (fO bu [] (fun _=>none) 0 (0,0) [] 0) (rP l).2=.ok (fO bu (IS l) (fun _=>none) 0 (0,0) [] 0) from rfl),Y9 l 0 3 _ r h fun _ _=>rfl]
theorem aep(l:List cz):Aw 0 l (fun _=>none) 10=none:=Se l 0 _ 10 (.inl (by decide))
abbrev aeq(l:List cz):Int→Option ks:=za (Aw 0 l fun _=>none) 10 (Sf (Ml l))
theorem aer{ms:List jz}{ap:Int→Option ks}{pk:Int}{at_:bK}{os:List dx}{m:Int}(i:Nat):lr [(b4 5)] i (fO bu ms ap pk at_ os m)=.ok {fO bu ms ap pk at_ os m with ended:=true}:=rfl
theorem arW{X Y:Int}(h:∀p∈l,p.e7)(aA:l.length≤6)(hr:y2 X Y):po {h1 with eL:=(X,Y)} (Ml l)=some ⟨ew,ft (l.map (cz.cF X Y))⟩∧okV ⟨ew,ft (l.map (cz.cF X Y))⟩=true:=by
 have aT:∀b∈l.map (cz.cF 0 0),s4 b:=fun b ay=>by obtain⟨p,hp,rfl⟩:=List.mem_map.1 ay;exact GP (h p hp) (by unfold y2;omega)
 have av:∀b∈l.map (cz.cF X Y),s4 b:=fun b ay=>by obtain⟨p,hp,rfl⟩:=List.mem_map.1 ay;exact GP (h p hp) hr
 have e:(l.map (cz.cF 0 0)).map (k1 {h1 with eL:=(X,Y)})=l.map (cz.cF X Y):=by rw[Jt];exact Ng fun p _=>YD X Y
 have ha:=ajC (t:={h1 with eL:=(X,Y)}) aT (fun b ay=>av _ (by rw[←e];exact List.mem_map_of_mem ay)) (by rw[e6];omega);rw[e] at ha;exact⟨ha,NC av (by rw[e6];omega)⟩
def IU(x y:Nat)(l:List cz):List dx:=[(true,⟨ew,ft (l.map (cz.cF (1000 *x) (1000 *y)))⟩)]
def vq(x y:Nat)(l:List cz):List dx:=l.map fun p=>(true,gX (cz.cF (1000 *x) (1000 *y) p))
theorem rg{x y:Nat}(hx:x<4096)(hy:y<4096):y2 (1000 *x) (1000 *y):=by unfold y2;omega
theorem arX(ay:1≤bu)(hx:x<4096)(hy:y<4096)(h:∀p∈l,p.e7)(aA:l.length≤6):xn ((vY x y l).map Prod.snd) bu=(IU x y l,0,0):=by
 obtain⟨f1,f2⟩:=arW h aA (rg hx hy);have e:(vY x y l).map Prod.snd=(head l).map Prod.snd++[jC.2,{b4 6 with n:=10},(jk (fN x) (fN y) 51).2,b4 5]:=by unfold vY;rw[nb];rfl
 unfold xn;rw[e,VH h,Au (Za (aep l) (VG h aA)),Au (Zb (by rfl)),Au (Zc (a:=Sf (Ml l)) (by omega) (by omega) (by rfl) rfl f1 f2 (by omega)),aer];rfl
end uy
namespace c4
open Go.RowKit dH
open vM (gV)
open Pw (H8)
open gT (eW)
abbrev Mm:TypeId:=306
abbrev FV(l:List Int):Array Value:= #[I (l.getD 0 0),I (l.getD 1 0),I (l.getD 2 0)]
theorem arY(l:List Int)(v:Int)(h:l.length<3):(FV l).setIfInBounds l.length (I v)=FV (l++[v]):=by
 rcases l with _|⟨a,_|⟨b,_|⟨c,l⟩⟩⟩
 ·rfl
 ·rfl
 ·rfl
 ·simp at h;omega
variable{w x:aeo}{k s:Nat}
theorem IV{l:List Int}(h:an w k (FV l) Mm){j:Nat}(cr:j<3):ak w k j (I (l.getD j 0)):=by rcases (show j=0∨j=1∨j=2 by omega) with rfl|rfl|rfl<;>simp[World.cell?,h]
def app(pre:List Int):Except Nat (List Int)→Except Nat (List Int)
 |.error e=>.error e
 |.ok l=>.ok (pre++l)
def yC(s:Nat)(u:Int)(da pre:List Int)(k:Nat):Prop:=pre.length=k∧(∀x∈pre,0≤x∧x≤268435456)∧mP s u da 0=app pre (mP s u (da.drop k) k)
theorem yC.nil (s:Nat) (u:Int) (da:List Int):yC s u da [] 0:=⟨rfl,fun x h=>absurd h (by simp),by
 rw[rR];cases mP s u da 0<;>rfl⟩
def Mn(s:Nat)(u:Int)(da:List Int)(k:Nat):Option Int→Except Nat (List Int)
 |none=>.error 5
 |some g=>if g<0∨(g=0∧s=2∧k<s) then .error 4 else if g.tmod 2≠0 then .error 7 else app [g.tdiv 2] (mP s u (da.drop (k+1)) (k+1))
variable{u a b h fU:Int}{da pre:List Int}
theorem yC.at(h:yC s u da pre k)(ax:k<da.length):mP s u da 0=app pre (Mn s u da k (gV da[k] u)):=by
 rw[h.2.2,lT ax]
 congr 1
theorem yC.step(h:yC s u da pre k)(ax:k<da.length){g:Int}(ba:gV da[k] u=some g)(av:¬(g<0∨(g=0∧s=2∧k<s)))(az:g.tmod 2=0)(ay:g≤536870912):yC s u da (pre++[g.tdiv 2]) (k+1):=by
 refine⟨by rw[hl,h.1];rfl,fun x hx=>?_,?_⟩
 ·rcases List.mem_append.1 hx with hx|hx
  ·exact h.2.1 x hx
  ·rw[List.mem_singleton.1 hx];rw[Aq (by omega)];omega
 ·rw[h.at ax,ba];unfold Mn;simp only;rw[aR av,aR (by simp[az])];cases mP s u (da.drop (k+1)) (k+1)<;>simp[app]
theorem yC.fin(h:yC s u da pre da.length):mP s u da 0=.ok pre:=by rw[h.2.2,List.drop_length];simp[mP,app]
def oC(bF:au):Nat:=if bF=[67] then 1 else 2
def FW(bF:au)(a b:Int):cJ:=if bF=[67] then GH a else if bF=[82] then Nu a b else GI a b
variable{bF:au}
theorem VI(h:bF=[67]∨bF=[82]∨bF=[79])(da:List Int)(u:Int)(ms:List jz):j9 bF da u ms=if da.length≠oC bF∧da.length≠oC bF+1 then .error 4 else match mP (oC bF) u da 0 with
  |.error e=>.error e
  |.ok g=>.ok (y0 (FW bF (g.getD 0 0) (g.getD 1 0)) (g.getD (oC bF) 0),if bF=[67]∧g.getD 1 0=0 then g.getD 0 0 else 0):=by
 unfold j9;rw[a8 h];rcases h with rfl|rfl|rfl<;>simp[oC,FW]<;>rfl
abbrev Qn:List Value:=[I 0,I 0,I 0,I 0,I 0,I 0,I 0,I 0,dr,dr,I 0]
structure yD(w:aeo)(pre:List Int)(x:aeo):Prop where
 aZ:ao w w x
 r:an x w.heap.size (nQ gu dr dr 0) nm
 h:an x (w.heap.size+1) (FV pre) Mm
theorem yD.below{y:aeo}(h:yD w pre x)(ay:ao x x y):yD w pre y:=⟨h.aZ.trans (ay.mono h.aZ.size),aU h.r ay,aU h.h ay⟩
theorem yD.step(h:yD w pre x){v:Int}(ax:pre.length=k)(aF:k<3):yD w (pre++[v]) (x.setCell (aj (w.heap.size+1) k) (I v)):=by subst ax;refine⟨h.aZ.setCell (p:=⟨w.heap.size+1,pre.length,none⟩) (nX _) _,(mw (by omega)).trans h.r,?_⟩;rw[←arY pre v aF];exact dL _ h.h
theorem tP.err{w':aeo}{r:Except Nat (dK×Int)}{v Df:ada}(hr: .error k=r)(ax:k≠0)(ay:ao w w w')(aS:v=UN)(arZ:Df=I (k:Int)):tP w r (ab (.tuple #[v,Df])) w':=by subst hr aS arZ;exact⟨ay,ax,rfl⟩
theorem VJ(h:bF=[67]∨bF=[82]∨bF=[79]){ms:List jz}(hn:¬(da.length≠oC bF∧da.length≠oC bF+1)){e:Nat}(he:mP (oC bF) u da 0=.error e): .error e=j9 bF da u ms:=by rw[VI h,aR hn,he]
theorem getD_in(h:∀x∈pre,0≤x∧x≤268435456)(j:Nat):0≤pre.getD j 0∧pre.getD j 0≤268435456:=by
 rw[B3];cases cr:pre[j]? with
 |none=>simp
 |some x=>exact h x (GD cr)
theorem ar0(_:oC bF=s)(a b:Int):∃K,FW bF a b=K:=⟨_,rfl⟩
variable{K:cJ}
theorem ar1(hc:bF=[67]∨bF=[82]∨bF=[79]){ms:List jz}(hn:¬(da.length≠oC bF∧da.length≠oC bF+1))(hs:oC bF=s)(hf:mP s u da 0=.ok pre)(ha:pre.getD 0 0=a)(ay:pre.getD 1 0=b)(aJ:pre.getD s 0=h)(hK:FW bF a b=K)(hr:(if bF=[67]∧b=0 then a else 0)=fU): .ok (y0 K h,fU)=j9 bF da u ms:=by rw[VI hc,aR hn,hs,hf];simp only;rw[ha,ay,aJ,hK,hr]
theorem ar2{r:Except Nat (dK×Int)}(aT:h=0)(hf: .ok (y0 K h,fU)=r): .ok ((⟨K,.nil⟩:dK),fU)=r:=by rw[←hf,aT];rfl
theorem yD.keep{y:aeo}{T:Nat}(h:yD w pre x)(ax:aQ (fun b=>b≠T) x y)(eS:w.heap.size+1<T):yD w pre y:=⟨ax.aZ h.aZ (by omega) h.aZ.size,ax.get (by omega) h.r,ax.get (by omega) h.h⟩
theorem tP.yes{w':aeo}{s:dK}{r:Except Nat (dK×Int)}{v Df:ada}{pl:Ja}{cl:Nat}{pp:Ja}{cp:Nat}(hr: .ok (s,fU)=r)(ay:ao w w w')(aS:v=.agg (nQ s.b (ad pl s.b.l.length cl) (ad pp s.p.len cp) fU))(ax:Df=I 0)(hs:dv (fun k=>w.heap.size≤k) w' pl cl pp cp s):tP w r (ab (.tuple #[v,Df])) w':=by subst hr aS ax;exact⟨ay,_,_,_,_,rfl,hs⟩
abbrev aes(b:cJ)(iP cq:ada)(r:Int):List Value:=[I b.k,I b.a.1,I b.a.2,I b.b.1,I b.b.2,I b.c.1,I b.c.2,I b.r,iP,cq,I r]
abbrev Dm(b:cJ)(iP:ada)(h:Int):Obj:=.cells #[U true,I b.k,I b.a.1,I b.a.2,I b.b.1,I b.b.2,I b.c.1,I b.c.2,I b.r,iP,dr,U false,I 1,I 0,I 0,I 0,I 0,I 0,I 0,I h,dr,dr] eQ
theorem ar3{r:Except Nat (dK×Int)}(aT:0<h)(hf: .ok (y0 K h,fU)=r): .ok ((⟨ew,.cons true K .nil (.cons false (k4 (0,0) h) .nil .nil)⟩:dK),fU)=r:=by rw[←hf];unfold y0;rw[a8 aT]
theorem ar4(hs:oC bF=s)(ay:pre.getD 1 0=b)(aJ:pre.getD s 0=h)(aT:¬h=0)(hx:bF=[67]∧b=0):False:=by obtain⟨rfl,rfl⟩:=hx;subst hs;exact aT (aJ.symm.trans ay)
theorem ar5(hs:oC bF=s)(ay:pre.getD 1 0=b)(aJ:pre.getD s 0=h)(a:Int):∃r,(if bF=[67]∧b=0 then a else 0)=r∧(h≠0→0=r):=⟨_,rfl,fun aT=>by rw[aR (fun hx=>ar4 hs ay aJ aT hx)]⟩
theorem ar6{S:afp}{g cl:Nat}{pl:Ja}(hp:w.heap[g]?=some (Dm K (ad pl K.l.length cl) h))(hS:S g)(hs:dv S w pl cl none 0 ⟨K,.nil⟩):dv S w none 0 (some (aj g 0)) 2 ⟨ew,.cons true K .nil (.cons false (k4 (0,0) h) .nil .nil)⟩:=
 ⟨.nil _ _ _,⟨show 2≤mo by decide,fun _=>⟨g,0,_,rfl,hS,hp,ds.mk rfl hs (ds.mk (pl:=none) (cl:=0) (pp:=none) (cp:=0) rfl (.bare _ _ _ _ _ _ _ rfl) trivial)⟩⟩,bx _,bx _⟩
theorem D6(_:oC [67]=s):True:=trivial
theorem ar7(h:FW [67] a b=K)(w:aeo):Calls Tryz.prog 183 #[I a] w (Bk w K):=h ▸ ao4 a w
theorem ar8(h:FW [82] a b=K)(ha:0≤a∧a≤268435456)(ay:0≤b∧b≤268435456)(w:aeo):Calls Tryz.prog 184 #[I a,I b] w (Bk w K):=h ▸ ao6 a b ⟨ha.1,by omega⟩ ⟨ay.1,by omega⟩ w
theorem ar9(h:FW [79] a b=K)(ha:0≤a∧a≤268435456)(ay:0≤b∧b≤268435456)(w:aeo):Calls Tryz.prog 185 #[I a,I b] w (Bk w K):=h ▸ ao5 a b ⟨ha.1,by omega⟩ ⟨ay.1,by omega⟩ w
theorem PO(bF:au)(A2:bF=[67]∨bF=[82]∨bF=[79])(da:List Int)(nq:Ja)(bA:Nat)(u:Int)(ms:List jz)(eK:ada)(B:Nat)(w:aeo)(Bi:af (eW B w nq da))(gF:da.length≤1000000000):
    Calls Tryz.prog 142 #[aa ⟨bF.toArray⟩,ad nq da.length bA,I u,eK] w (tP w (j9 bF da u ms)):=by
  obtain⟨n,hn⟩:∃n,da.length=n:=⟨_,rfl⟩;have bf:=aq hn;rw[hn] at gF⊢;clear hn;obtain⟨s,hs⟩:∃s,oC bF=s:=⟨_,rfl⟩;have b7:=aq hs;have OS:=aq A2;have aet:s=1∨s=2:=(by rw[←hs];unfold oC;split<;>simp);clear hs;by_cases hlen:n=s∨n=s+1
  case neg=>
    have aP:af (.error 4=j9 bF da u ms):=by show _=_;rw[VI OS.out,a8 (by rw[bf.out,b7.out];omega)]
    have aA:(bF=[67]→((n:Int) !=1)=true∧((n:Int) !=2)=true)∧(bF≠[67]→((n:Int) !=2)=true∧((n:Int) !=3)=true):=by
      have hs:=b7.out;unfold oC at hs;refine⟨fun h=>?_,fun h=>?_⟩
      · rw[a8 h] at hs
        constructor<;>(rw[xf];omega)
      · rw[aR h] at hs
        constructor<;>(rw[xf];omega)
    clear aet b7 OS;rcases A2 with rfl|rfl|rfl
    all_goals
      first|have l:=aA.1 rfl|have l:=aA.2 (by decide)
      obtain⟨vc,gQ⟩:=l;go_enter Tryz.func142,Tryz.ntmps142;go_wp2_with fail;exact dC (l6 rfl _ _ w.heap.size _ _ _ _ rfl (cd w (ai (nQ gu dr dr 0) nm)) Bq rfl (by kernel_rfl)) rfl (.err aP.out (by decide) (a' _ _) rfl rfl)
  have yf:n≤3:=(by omega);have im:af (¬(da.length≠oC bF∧da.length≠oC bF+1)):=by show ¬_;rw[bf.out,b7.out];omega
  have aA:(bF=[67]→(((n:Int) !=1)=false∨((n:Int) !=1)=true∧((n:Int) !=2)=false)∧s=1)∧(bF≠[67]→(((n:Int) !=2)=false∨((n:Int) !=2)=true∧((n:Int) !=3)=false)∧s=2):=by
    have hs:=b7.out;unfold oC at hs;refine⟨fun h=>?_,fun h=>?_⟩
    · rw[a8 h] at hs
      subst hs;refine⟨?_,rfl⟩;rcases hlen with rfl|rfl
      · exact .inl rfl
      · exact .inr ⟨rfl,rfl⟩
    · rw[aR h] at hs
      subst hs;refine⟨?_,rfl⟩;rcases hlen with rfl|rfl
      · exact .inl rfl
      · exact .inr ⟨rfl,rfl⟩
  clear hlen;rcases A2 with rfl|rfl|rfl
  all_goals
    first|have l:=aA.1 rfl|have l:=aA.2 (by decide)
    have dT:=aq l.1;have kk:=aq l.2;clear aA aet l;go_enter Tryz.func142,Tryz.ntmps142;go_upto_region 9 with fail;go_cut [41] (fun a gy=>a=U false∧gy=w.alloc (ai (nQ gu dr dr 0) nm))
    case first=>
      rcases dT.out with l|⟨l,gQ⟩
      all_goals
        go_wp2_with fail;go_meet;exact⟨rfl,rfl⟩
    case rest=>
      obtain⟨rfl,rfl⟩:=hcut;have mC:af (yD w [] ((w.alloc (ai (nQ gu dr dr 0) nm)).alloc (ai (FV []) Mm))):=(by exact⟨nI _ _ _,aU (cd _ _) (a' _ _),uJ _ _ _⟩);have By:af (yC s u da [] 0):=.nil _ _ _;go_wp2_with fail;change Code.wp _ _ _ _ ((w.alloc (ai (nQ gu dr dr 0) nm)).alloc (ai (FV []) Mm));generalize (w.alloc (ai (nQ gu dr dr 0) nm)).alloc (.cells (FV []) Mm)=W0 at mC⊢
      go_loopw [45] (fun i wr=>∃(k:Nat) (pre:List Int) (aK:aeo),aK=wr∧k≤n∧i=I k∧af (yD w pre aK)∧af (yC s u da pre k)) (fun i _=>n -(intOf i).toNat)
      case atStart=>exact⟨0,[],_,rfl,by omega,rfl,mC.out,By.out⟩
      case round=>
      obtain⟨k,pre,aK,rfl,ax,rfl,jh,bN⟩:=hrel;clear mC By;by_cases oO:k<n
      · have ou:(k:Int)<(n:Int):=by omega
        have q4:(0:Int)≤(k:Int):=(by omega);have iE:k<da.length:=(by rw[bf.out];exact oO);obtain⟨b,o,cs,aH,_,aJ,gm⟩:=Bi.out (by omega);subst aH;obtain⟨x,hx⟩:∃x,da[k]=x:=⟨_,rfl⟩;have UQ:aK.cell? ⟨b,o+k,none⟩=some (I x):=cell_of (aU aJ jh.out.aZ) (by rw[←hx];exact gm k iE);have c2:af (∀h:k<da.length,da[k]'h=x):=fun _=>hx;have aeu:=aq iE;obtain⟨IW,Qo⟩:∃IW,gV x u=IW:=⟨_,rfl⟩;have e0:=aq Qo;have b0:af ((gV x u).getD 0=IW.getD 0∧(gV x u).isSome=IW.isSome):=(by show _∧_;rw[Qo];exact⟨rfl,rfl⟩);have c9:af (mP s u da 0=app pre (Mn s u da k IW)):=(by have h:=bN.out.at iE;rw[hx,Qo] at h;exact h);clear gm aJ hx iE Qo;go_wp2_with fail;with_reducible refine (H8 x u _ _ b0 _).mono ?_
        rintro e bt ⟨rfl,rfl⟩;clear UQ b0;cases IW with
        |none=>
          have aP:af (.error 5=j9 _ da u ms):=VJ (by decide) im.out (by rw[b7.out];exact c9.out);obtain⟨z0,z1,z2,z3,z4,z5,hZ,hO,ib,z9,kU⟩:=pE jh.out.r;have nR:=cR jh.out.r;go_wp2_with fail;refine qi (P:=bodyPost _ _ _ _ _) Qn jh.out.r rfl fun et g1 g2=>?_;exact dC (l6 rfl _ _ w.heap.size _ _ _ _ rfl g1 Bq rfl (by kernel_rfl)) rfl (.err aP.out (by decide) (g2.aZ jh.out.aZ (bx _) jh.out.aZ.size) rfl rfl)
        |some g=>
          have KO:=acJ e0.out;by_cases yE:g.tmod 2=0∧¬(g<0∨(g=0∧s=2∧k<s))
          · have lD:=aq (bN.out.step aeu.out (by rw[c2.out];exact e0.out) yE.2 yE.1 KO.2)
            have ob:k<3:=(by omega);have l4:¬g<0:=fun h=>yE.2 (.inl h);have aye:wrap64 (g.tdiv 2)=g.tdiv 2:=Bm _ (by rw[Aq (by omega)];omega);have c0:=aq (jh.out.step (v:=g.tdiv 2) bN.out.1 ob);have wD:(g%2 !=0)=false:=(by rw[bne_eq_false_iff_eq,←y7 (by omega)];exact yE.1);have v0:=IV jh.out.h ob;have aoz:=cR jh.out.h k;have wN:g=0→s=2→¬(k:Int)<2:=fun aT az aF=>yE.2 (.inr ⟨aT,az,by omega⟩);clear yE KO;by_cases zB:g=0
            · subst zB
              first|have fT:=wN rfl kk.out|skip
              clear wN;go_wp2_with fail;go_round<;>first|exact⟨k+1,_,_,rfl,by omega,by go_num,c0.out,lD.out⟩|(simp[intOf]<;>omega)
            · have CJ:(g==0)=false:=beq_eq_false_iff_ne.2 zB
              clear wN;go_wp2_with fail;go_round
              · exact⟨k+1,_,_,rfl,by omega,by go_num,c0.out,lD.out⟩
              · (simp[intOf]<;>omega)
          · obtain⟨z0,z1,z2,z3,z4,z5,hZ,hO,ib,z9,kU⟩:=pE jh.out.r
            have nR:=cR jh.out.r;by_cases fF:g<0∨(g=0∧s=2∧k<s)
            · have aP:af (.error 4=j9 _ da u ms):=VJ (by decide) im.out (by rw[b7.out,c9.out];unfold Mn;simp only;rw[a8 fF];rfl)
              clear yE;rcases fF with l4|⟨rfl,vb,AH⟩
              · go_wp2_with fail
                refine qi (P:=bodyPost _ _ _ _ _) Qn jh.out.r rfl fun et g1 g2=>?_;exact dC (l6 rfl _ _ w.heap.size _ _ _ _ rfl g1 Bq rfl (by kernel_rfl)) rfl (.err aP.out (by decide) (g2.aZ jh.out.aZ (bx _) jh.out.aZ.size) rfl rfl)
              · first
                  |(exfalso;have:=kk.out;omega)
                  | (have fT:(k:Int)<2:=by omega
                     go_wp2_with fail;refine qi (P:=bodyPost _ _ _ _ _) Qn jh.out.r rfl fun et g1 g2=>?_;exact dC (l6 rfl _ _ w.heap.size _ _ _ _ rfl g1 Bq rfl (by kernel_rfl)) rfl (.err aP.out (by decide) (g2.aZ jh.out.aZ (bx _) jh.out.aZ.size) rfl rfl))
            · have aP:af (.error 7=j9 _ da u ms):=VJ (by decide) im.out (by rw[b7.out,c9.out];unfold Mn;simp only;rw[aR fF,a8 (fun h=>yE ⟨h,fF⟩)];rfl)
              have l4:¬g<0:=fun h=>fF (.inl h);have wD:(g%2 !=0)=true:=(by rw[xf,←y7 (by omega)];exact fun h=>yE ⟨h,fF⟩);have CJ:(g==0)=false:=beq_eq_false_iff_ne.2 fun h=>yE ⟨by rw[h];rfl,fF⟩;clear yE fF;go_wp2_with fail;refine qi (P:=bodyPost _ _ _ _ _) Qn jh.out.r rfl fun et g1 g2=>?_;exact dC (l6 rfl _ _ w.heap.size _ _ _ _ rfl g1 Bq rfl (by kernel_rfl)) rfl (.err aP.out (by decide) (g2.aZ jh.out.aZ (bx _) jh.out.aZ.size) rfl rfl)
      · obtain rfl:n=k:=by omega
        have jI:mP s u da 0=.ok pre:=(by have h:=bN.out;rw[←bf.out] at h;exact h.fin);have zK:=fun j=>getD_in bN.out.2.1 j;obtain⟨a,ha⟩:∃a,pre.getD 0 0=a:=⟨_,rfl⟩;obtain⟨b,ay⟩:∃b,pre.getD 1 0=b:=⟨_,rfl⟩;obtain⟨h,aJ⟩:∃h,pre.getD s 0=h:=⟨_,rfl⟩;have VK:=zK 0;have II:=zK 1;have asa:=zK s;rw[ha] at VK;rw[ay] at II;rw[aJ] at asa;obtain⟨K,hK⟩:=ar0 b7.out a b;first|have bz:=aq (fun Z=>ar7 hK Z)|have bz:=aq (fun Z=>ar8 hK VK II Z)|have bz:=aq (fun Z=>ar9 hK VK II Z)
        have dn:=aq hK;obtain⟨fU,jV,su⟩:=ar5 b7.out ay aJ a;have eF:=aq su;have aP:=aq (ar1 (ms:=ms) (by decide) im.out b7.out jI ha ay aJ hK jV);have FX:=aq jV;have aew:=aq aJ;have fa:=aq ay;have cc:=aq ha;have aN:=IV jh.out.h (j:=0) (by decide);have aL:=IV jh.out.h (j:=1) (by decide);have cs:=IV jh.out.h (j:=s) (by have:=kk.out;omega);rw[ha] at aN;rw[ay] at aL;rw[aJ] at cs;clear jI zK ha ay aJ hK jV su oO;first|obtain rfl:s=1:=kk.out|obtain rfl:s=2:=kk.out
        first|(have Mo:=aew.out.symm.trans fa.out;clear aL Mo;have aL:=aN)|skip
        go_upto_region 26 with fail;have sD:af ((aK.alloc (ai (nQ gu dr dr 0) nm)).heap[aK.heap.size]?=some (.cells (nQ gu dr dr 0) nm)):=cd _ _;have gd:=aq (jh.out.below (a' aK (ai (nQ gu dr dr 0) nm)));have FY:af (w.heap.size+1<aK.heap.size):=lt_of_heap jh.out.h;have d0:=bP (a' aK (ai (nQ gu dr dr 0) nm)) aN;have d1:=bP (a' aK (ai (nQ gu dr dr 0) nm)) aL;have hX:=bP (a' aK (ai (nQ gu dr dr 0) nm)) cs;clear aN aL cs jh;change Code.wp _ _ _ _ (aK.alloc (ai (nQ gu dr dr 0) nm));generalize aK.alloc (.cells (nQ gu dr dr 0) nm)=ck at sD gd d0 d1 hX⊢;obtain⟨T,eS⟩:∃T,aK.heap.size=T:=⟨_,rfl⟩;rw[eS] at sD FY⊢;clear eS;go_wp2_with fail;with_reducible refine (bz.out _).mono ?_
        rintro e cZ ⟨ev,pl,cl,rfl,x3⟩;have qM:=aq (aU sD.out ev);have te:=aq (gd.out.below ev);have U0:af (T<ck.heap.size):=lt_of_heap sD.out;have yq:=aq x3;clear ev sD gd x3 d0 d1 hX bz;have d0:=IV te.out.h (j:=0) (by decide);obtain⟨z0,z1,z2,z3,z4,z5,hZ,hO,ib,z9,kU⟩:=pE qM.out;have nR:=cR qM.out;first|(have asb:=D6 b7.out;go_upto_region 29 with fail)|go_upto_region 35 with fail
        refine ao3 (P:=Code.wp _ _ _ _) (ke K (ad pl K.l.length cl) dr) qM.out (show 10≤11 by decide) fun dc g1 g2=>?_;have tO:af (dc.heap[T]?=some (.cells (nQ K (ad pl K.l.length cl) dr 0) nm)):=g1;have wW:=aq (te.out.keep g2 FY.out);have qN:af (dv (fun k=>w.heap.size+2≤k∧k≠T) dc pl cl none 0 ⟨K,.nil⟩):=((yq.out.keep (g2.mono fun k _ ax=>by have:=U0.out;omega)).mono fun k _ ax=>by have:=U0.out;have:=FY.out;omega);clear g1 g2 z0 z1 z2 z3 z4 z5 hZ hO ib z9 kU nR d0 qM te yq;obtain⟨z0,z1,z2,z3,z4,z5,hZ,hO,ib,z9,kU⟩:=pE tO.out;have nR:=cR tO.out;have d0:=IV wW.out.h (j:=0) (by decide);rw[cc.out] at d0;by_cases Qp:h=0
        · have eV:=aq (ar2 Qp aP.out)
          subst Qp;obtain⟨gR,ayf⟩:∃W:aeo,W=dc:=⟨_,rfl⟩
          first
            | (have asb:=D6 b7.out
               go_upto_region 35 with fail;refine ac2 (P:=Code.wp _ _ _ _) tO.out fun gH g3 g4=>?_;have jV:=FX.out;rw[a8 (And.intro (by trivial) (fa.out.symm.trans aew.out))] at jV;have aex:af (gH.heap[T]?=some (.cells (nQ K (ad pl K.l.length cl) dr fU) nm)):=(by show _=_;rw[←jV];exact g3);have wX:=aq (wW.out.keep g4 FY.out);have zL:=aq (qN.out.keep (g4.mono fun k _ ax=>ax.2)))
            | (have jV:=FX.out
               rw[aR (fun h=>absurd h.1 (by decide))] at jV;have aex:af (dc.heap[T]?=some (.cells (nQ K (ad pl K.l.length cl) dr fU) nm)):=(by show _=_;rw[←jV];exact tO.out);have wX:=wW;have zL:=qN)
          clear z0 z1 z2 z3 z4 z5 hZ hO ib z9 kU nR d0 tO wW qN;obtain⟨t0,t1,t2,t3,t4,t5,t6,t7,t8,t9,t10⟩:=pE aex.out;obtain⟨z0,z1,z2,z3,z4,z5,hZ,hO,ib,z9,kU⟩:=pE wX.out.r;have nR:=cR wX.out.r;go_wp2_with fail;refine qi (P:=bodyPost _ _ _ _ _) (aes K (ad pl K.l.length cl) dr fU) wX.out.r rfl fun et g5 g6=>?_;exact dC (l6 rfl _ _ w.heap.size _ _ _ _ rfl g5 Bq rfl (by kernel_rfl)) rfl (.yes eV.out (g6.aZ wX.out.aZ (bx _) wX.out.aZ.size) rfl rfl ((zL.out.keep (g6.mono fun k _ ax=>by omega)).mono fun k _ ax=>by omega))
        · have EF:(h==0)=false:=beq_eq_false_iff_ne.2 Qp
          have As:0<h:=(by omega);have eV:=aq (ar3 As aP.out);have kP:=aq (eF.out Qp);have aey:=lt_of_heap tO.out;go_upto_region 37 with fail;refine ac4 (P:=fun X=>Code.wp _ _ _ _ (X.alloc (Dm K (ad pl K.l.length cl) h))) (ke ew dr (ag dc.heap.size 0 2 2)) tO.out (show 10≤11 by decide) fun gR g3 g4 gs=>?_;have aez:af ((gR.alloc (Dm K (ad pl K.l.length cl) h)).heap[dc.heap.size]?=some (Dm K (ad pl K.l.length cl) h)):=(by show _=_;rw[←gs];exact cd _ _);have sC:=aq ((wW.out.keep g4 FY.out).below (a' gR (Dm K (ad pl K.l.length cl) h)));have C8:=aq ((qN.out.keep (g4.mono fun k _ ax=>ax.2)).below (a' gR (Dm K (ad pl K.l.length cl) h)));have aeA:af ((gR.alloc (Dm K (ad pl K.l.length cl) h)).heap[T]?=some (.cells (nQ ew dr (ag dc.heap.size 0 2 2) 0) nm)):=aU g3 (a' _ _);have aeB:af (T<dc.heap.size):=aey;clear g3 g4 gs z0 z1 z2 z3 z4 z5 hZ hO ib z9 kU nR d0 aey tO wW qN;generalize gR.alloc (Dm K (ad pl K.l.length cl) h)=gH at aez sC C8 aeA⊢;obtain⟨t0,t1,t2,t3,t4,t5,t6,t7,t8,t9,t10⟩:=pE aeA.out;obtain⟨z0,z1,z2,z3,z4,z5,hZ,hO,ib,z9,kU⟩:=pE sC.out.r;have nR:=cR sC.out.r;go_wp2_with fail;refine qi (P:=bodyPost _ _ _ _ _) (aes ew dr (ag dc.heap.size 0 2 2) 0) sC.out.r rfl fun et g5 g6=>?_;rw[←kP.out] at eV;exact dC (l6 rfl _ _ w.heap.size _ _ _ _ rfl g5 Bq rfl (by kernel_rfl)) rfl (.yes (pp:=some ⟨dc.heap.size,0,none⟩) (cp:=2) (pl:=none) (cl:=0) eV.out (g6.aZ sC.out.aZ (bx _) sC.out.aZ.size) rfl rfl (ar6 (g6.get (by have:=aeB.out;have:=FY.out;omega) aez.out) (by have:=aeB.out;have:=FY.out;omega) ((C8.out.keep (g6.mono fun k _ ax=>by omega)).mono fun k _ ax=>by omega)))
end c4
