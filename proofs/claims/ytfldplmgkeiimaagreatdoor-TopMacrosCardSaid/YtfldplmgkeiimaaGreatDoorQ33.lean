/- Lemmas. -/
import Derived.Test.YtfldplmgkeiimaaGreatDoorQ32
import Derived.Test.YtfldplmgkeiimaaGreatDoorQ31
import Derived.Defers
import Derived.Laws.Pointers
import Derived.Laws.LoneSync
import Derived.RegionCalls
import Derived.ChangeAlike
set_option linter.all false
set_option maxRecDepth 100000
set_option maxHeartbeats 25600000
namespace Go.Proofs.YtfldplmgkeiimaaGreatDoor
abbrev VM:=@run_call_add
abbrev aeM:=@run_convert_to_unsafe
namespace gT
open Go.RowKit ny j6 px Mem p1 bS
def lenOf:ada→Nat
 |.slice _ n _=>n
 |_=>0
def aeN(l:List (Nat×C))(i e:Nat)(w:aeo)(jY:Ending)(w':aeo):Prop:=Below w.heap.size w w'∧∃v,jY=ab (.tuple #[v,I (i:Int),I (e:Int)])∧jJ w.heap.size w' v l
theorem aeO:∀{l:au} {k:Nat} {s:iy} {i e:Nat},jl l k s=.error (i,e)→e≠0
 |[],k,s,i,e,h=>by cases h
 |c::l,k,s,i,e,h=>by
  unfold jl at h;split at h
  ·rename_i az;cases h;exact Nat.pos_iff_ne_zero.1 (aeG az)
  ·exact aeO h
theorem asp{s:au}{ws:List ea}{i:Nat}(h:uf s=(ws,i,0)):i=0:=by
 unfold uf at h;split at h
 ·simp at h
 ·split at h
  ·rename_i az;simp only[fS] at h;exact absurd h.2.2 (aeO az)
  ·split at h
   ·simp at h
   ·simp only[fS] at h;exact h.2.1.symm
def asq(r:Except (Nat×Nat) (List C))(B:Nat)(bt:aeo)(v:ada)(a e:Nat):Prop:=match r with
 |.ok cs=>e=0∧jJ B bt v (tR cs)
 |.error y=>a=y.1∧e=y.2
variable{w:aeo}
theorem asr{p:Addr}{v:ada}(h:w.cell? p=some v):p.block<w.heap.size:=World.block_lt_of_cell? w p h
variable{w3:Ja}{xs:aev}
theorem ass{W X bV:aeo}{N vr a:Nat}{pN:Int}{v':ada}{L:List (Nat×C)}{c:C}{pn gg:Ja}{nv hz:Nat}(Bv:(a:Int)=pN)(h5:L.length=N)(hx:W.ownsRow w.heap.size 104 12 (ad w3 N vr) N xs)(hr:oy w.heap.size W L xs)(hn:eW w.heap.size W pn c.b6)(ay:fG w.heap.size W gg c.blocks)(dd:ao W W X)(ba:X.grownBy bV (Value.ownBlock (ad w3 N vr)))
  (bl:bV.ownsRow w.heap.size 104 12 v' (N+1) (xs++(iX c pN (ad pn c.b6.length nv) (ad gg c.blocks.length hz)).toList)) (bL:ao w w W):jJ w.heap.size bV v' (L++[(a,c)])∧ao w w bV:=by
 subst Bv;subst h5;refine⟨jJ.push (x:=(a,c)) hx hr hn ay dd ba bl,?_⟩;have dA:=bL.trans (dd.mono bL.size);exact dA.grown ba dA.size (fun k ax=>((e9 hx dd).lt _ ax).1)
theorem ast{wc W X bV:aeo}{Bz N vr g' mn:Nat}(hx:W.ownsRow w.heap.size 104 12 (ad w3 N vr) N xs)(dd:ao W W X)(ba:X.grownBy bV (Value.ownBlock (ad w3 N vr)))(hw:Value.ownBlock (ad (some (aj g' 0)) (N+1) mn)=Value.ownBlock (ad w3 N vr)∨Value.ownBlock (ad (some (aj g' 0)) (N+1) mn)=some X.heap.size)
  (hK:kD 104 wc W) (aeP:∀dU,Value.ownBlock (ad w3 N vr)=some dU→dU<Bz∨wc.heap.size≤dU) (hv:∀dU,Bz≤dU→dU<wc.heap.size→W.heap[dU]?=wc.heap[dU]?):
  kD 104 wc bV∧(∀dU,Value.ownBlock (ad (some (aj g' 0)) (N+1) mn)=some dU→dU<Bz∨wc.heap.size≤dU)∧(∀dU,Bz≤dU→dU<wc.heap.size→bV.heap[dU]?=wc.heap[dU]?):=by
 refine⟨(hK.trans (.dI dd)).trans (.grown (e9 hx dd) ba),fun dU wN=>?_,fun dU av az=>?_⟩
 ·rcases hw with h|h
  ·exact aeP dU (h.symm.trans wN)
  ·rw[h] at wN;injection wN with wN;exact .inr (by rw[←wN];exact dB hK.1 dd.size)
 ·have aF:dU<W.heap.size:=jN az hK.1;rw[←hv dU av az,←dd.block dU aF];refine ba.block dU (jN aF dd.size) (fun h=>?_);rcases aeP dU h.symm with bk|bk<;>omega
theorem aeQ(S:Ua)(hm:S.size≤maxLen)(w:aeo)(l:List (Nat×C))(i e:Nat)(h:af (j7 S.data.toList=(l,i,e))):
  Calls Tryz.prog 39 #[aa S] w (aeN l i e w):=by
 obtain⟨⟨ws,mx,a1⟩,hw⟩:=ar (uf S.data.toList);have ez:=aq hw;have CH:=aq hm;have aA:=h.out;clear h hm;go_enter Tryz.func39,Tryz.ntmps39;go_wp2_with fail;with_reducible refine (asn S CH.out _ ws mx a1 ez).mono ?_
 rintro jY bV ⟨v,rfl,aS,ay⟩;have aO:=aq ay;clear ay;by_cases he:a1=0
 ·subst he;obtain rfl:=asp hw;rw[arC hw] at aA;have dT:=aq aA;have o6:=aq (aro hw);obtain⟨p,c,g,pe,rfl,FC,y1,Dp⟩:=ark aS;have Dk:=aq (And.intro FC y1);have Qr:=aq Dp;clear aA hw aS Dp ez FC y1;go_wp2_with fail
  go_loopw [5,8] (fun u v wr=>∃(f:Nat) (lw:List ea) (L:Nat) (acc:List (Nat×C)) (p:Ja) (cp o:Nat),u=ad p L cp∧af (lw.length=L)∧L≤f∧L≤cp∧af (cp≤maxLen)∧af (jJ w.heap.size wr v acc)∧af (ao w w wr)∧af (0<lw.length→p=some ⟨g,o,none⟩∧an wr g pe 153∧Bx pe o lw)∧af (lw.length≤1000000∧∀x∈lw,x.t.length≤1000000)∧af (acc.length+2 *lw.length≤2000000)∧af (VA (sU f lw acc)=(l,i,e))) (fun u _ _=>lenOf u)
  case atStart=>exact⟨ws.length,ws,ws.length,[],p,c,0,rfl,rfl,bx _,Dk.out.1,Dk.out.2,jJ.nil _ _,aO.out,Qr,o6,(by show 0+_≤_;have:=o6.out.1;omega),dT⟩
  case round=>
  obtain⟨f,lw,L,acc,p,cp,o,rfl,w4,ayh,ayi,vd,bz,aO,Qr,o6,EK,bq⟩:=hrel;by_cases aT:L=0
  ·have ad4:¬(0:Int)<(L:Int):=(by omega);have hr:=bq.out;have aeR:lw=[]:=rQ (w4.out.trans aT);rw[aeR,RB] at hr;have su:(acc,0,0)=(l,i,e):=hr;simp only[fS] at su;obtain⟨rfl,rfl,rfl⟩:=su;clear hr aeR aT;go_wp2_with fail;go_ret3;exact⟨aO.out,_,rfl,bz.out⟩
  ·obtain⟨x,gQ,hx⟩:∃x gQ,lw=x::gQ:=by
    cases lw with
    |nil=>exact absurd w4.out.symm aT
    |cons a b=>exact⟨a,b,rfl⟩
   subst hx;obtain⟨f2,rfl⟩:∃f2,f=f2+1:=⟨f-1,by omega⟩;obtain⟨rfl,ba,Dp⟩:=Qr.out (Eo _);have e0:=aq ba;have aeS:=aq Dp;have uY:gQ.length+1=L:=w4.out;obtain⟨k,ax⟩:=ar ((gQ.takeWhile fun x=>!x.first).length);have hr:=bq.out;rw[arB,arw,arx,ax] at hr;obtain⟨r,jV⟩:=ar (vS x (gQ.take k));have FX:=aq jV;rw[jV] at hr;have eF:=aq hr;have iE:k+1≤L:=(by have:=arA gQ;omega);have asu:af (∀j,j<k→pe[o+(j+1) *4+2]?=some (U false)):=(by intro j cr;obtain⟨av,az⟩:=ary (l:=gQ) (k:=j) (by rw[ax];exact cr);have aF:=(Dp (j+1) (by rw[eP];omega)).2.2.1;simp only[FK] at aF;rw[az] at aF;exact aF);have asv:af (k+1<L→pe[o+(k+1) *4+2]?=some (U true)):=(by intro cr;have av:(gQ.takeWhile fun x=>!x.first).length<gQ.length:=(by omega);have az:=arz av;have aF:=(Dp (k+1) (by rw[eP];omega)).2.2.1;simp only[FK] at aF;simp only[ax] at az;rw[aF,az]);have Qs:=Dp 0 (Eo _);simp only[Is,DK,G0] at Qs;obtain⟨T,eS⟩:=kb x.t;have vo:(⟨x.t.toArray⟩:Ua)=T:=lY eS.symm;rw[vo] at Qs;have wb:=aq Qs;have F2:=aq eS;have akS:(0:Int)<(L:Int):=(by omega);have ayj:0<L:=(by omega);have q':k<1000000:=(by have:=o6.out.1;rw[eP] at this;omega);have eI:((k+1:Nat):Int)≤(cp:Int):=(by omega);clear hr ax jV ba Dp Qs eS vo aT bq Qr uY;have I0:af (∀(j:Nat) (u:ada),pe[j]?=some u→ak wr g j u):=(fun j u cr=>by simp[World.cell?,e0.out,cr]);go_wp2_with fail
   go_loopw [9] (fun n gy=>∃j,j≤k∧n=I ((j+1:Nat):Int)∧gy=wr) (fun n _=>k+1 -(intOf n).toNat)
   case atStart=>exact⟨0,eE _,rfl,rfl⟩
   case round=>
   obtain⟨j,cr,rfl,rfl⟩:=hrel;by_cases A0:j<k
   ·have VN:((j+1:Nat):Int)<(L:Int):=(by omega);have p2:=I0.out _ _ (asu.out j A0);go_wp2_with fail
    go_roundw
    case rel=>
     exact⟨j+1,by omega,by go_num,trivial⟩
    case measure=>simp[intOf]<;>omega
   ·obtain rfl:j=k:=(by omega);clear A0 cr;go_upto_region 7 with fail;go_cut [37] (fun c gy=>c=U false∧wr=gy)
    case first=>
     by_cases asw:j+1<L
     ·have VN:((j+1:Nat):Int)<(L:Int):=(by omega);have p2:=I0.out _ _ (asv.out asw);go_wp2_with fail;go_meet;exact⟨rfl,rfl⟩
     ·have VN:¬((j+1:Nat):Int)<(L:Int):=(by omega);go_wp2_with fail;go_meet;exact⟨rfl,rfl⟩
    case rest=>
    obtain⟨rfl,rfl⟩:=hcut;have sf:af (T.size≤1000000000):=(by show _≤_;rw[←cG,F2.out];have:=o6.out.2 x (by simp);omega);obtain⟨v0,v1,v2,v3⟩:=wb.out;have aD:=I0.out _ _ v0;have aG:=I0.out _ _ v1;have jL:=I0.out _ _ v2;have lN:=I0.out _ _ v3;clear v0 v1 v2 v3;go_upto_if 43 with fail;go_cut [10,6,7] (fun v a jU bt=>∃(tr I1:Nat),a=I (tr:Int)∧jU=I (I1:Int)∧af (ao wr wr bt)∧af (asq r wr.heap.size bt v tr I1))
    case first=>
     cases I2:x.ext with
     |true=>
      rw[I2] at aG;have xS:af (xk x (gQ.take j)=r):=(by have h:=FX.out;unfold vS at h;rw[a8 I2] at h;exact h);have q9:j≤gQ.length:=by have:=w4.out;rw[eP] at this;omega
      have Mq:=aq9 (some (aj g o)) cp x (gQ.take j) wr (aq (Bx.arl aeS.out e0.out (by rw [List.prefix_cons_inj];exact List.take_prefix _ _))) (by have:=o6.out.1;rw [eP] at this;rw [kj];omega) (by rw [kj];omega) vd.out (aq (by
       intro y hy
       have:=o6.out.2 y (by
        rcases List.mem_cons.1 hy with rfl|hy
        ·simp
        ·exact Af _ (List.mem_of_mem_take hy))
       omega)) r xS
      rw[kj,xH q9] at Mq;have asx:=aq Mq;clear Mq I2 xS q9;go_wp2_with fail;with_reducible refine asx.out.mono ?_
      rintro jY bt ⟨dS,tS⟩;have dX:=aq dS;clear dS;cases r with
      |ok cs=>
       obtain⟨v,rfl,Dq⟩:=tS;have LU:=aq Dq;clear Dq;go_wp2_with fail;go_meet;exact⟨0,0,rfl,rfl,dX.out,rfl,LU.out⟩
      |error y=>
       obtain rfl:=tS;go_wp2_with fail;go_meet;exact⟨y.1,y.2,rfl,rfl,dX.out,rfl,rfl⟩
     |false=>
      rw[I2] at aG;obtain⟨zJ,Bt⟩:=ar (vR T.data.toList);have asy:=aq Bt;have jd:=FX.out;unfold vS at jd;rw[aR (by rw[I2];decide),←F2.out,Bt] at jd;have I3:g<wr.heap.size:=(Array.getElem?_eq_some_iff.1 e0.out).1;have tX:=aq I3;have c2:=aq aD;clear Bt I2 I3;go_wp2_with fail;with_reducible refine (apE T sf.out zJ asy _).mono ?_
      rintro jY bt ⟨dS,tS⟩;have dX:=aq dS;have aC:ak bt g o (I (x.a:Int)):=(dS.cell (p:=⟨g,o,none⟩) tX.out).trans c2.out;clear dS;cases zJ with
      |ok cs=>
       obtain⟨v,rfl,Dq⟩:=tS;have LU:=aq Dq;have bd:af (r=.ok cs):=jd.symm;clear Dq jd;go_wp2_with fail;go_meet;exact⟨x.a,0,rfl,rfl,dX.out,(by rw[bd.out];exact⟨rfl,LU.out⟩)⟩
      |error n=>
       obtain rfl:=tS;have bd:af (r=.error (x.a,n)):=jd.symm;clear jd;go_wp2_with fail;go_meet;exact⟨x.a,n,rfl,rfl,dX.out,(by rw[bd.out];exact⟨rfl,rfl⟩)⟩
    case rest=>
    obtain⟨tr,I1,rfl,rfl,dX,b5⟩:=hcut;have Dj:=aq (aO.out.trans (dX.out.mono aO.out.size));clear aD aG jL lN;cases r with
    |error y=>
     obtain⟨aE,fJ⟩:=y;obtain⟨rfl,rfl⟩:=b5.out;have hne:I1≠0:=aru FX.out;have L':((I1:Int) !=0)=true:=(by simp;omega);have hr:=eF.out;have su:(([]:List (Nat×C)),tr,I1)=(l,i,e):=hr;simp only[fS] at su;obtain⟨rfl,rfl,rfl⟩:=su;clear hr hne;go_wp2_with fail;go_ret3;exact⟨Dj.out,_,rfl,jJ.nil _ _⟩
    |ok cs=>
     obtain⟨rfl,Dq⟩:=b5.out;obtain⟨pm,cQ,vi,VO⟩:=Vy Dq;obtain⟨Bz,Lt⟩:=ar wr.heap.size;have u':af (w.heap.size≤Bz):=(by show _≤_;rw[←Lt];exact aO.out.size);rw[Lt] at VO;rw[show (tR cs).length=cs.length by simp[tR]] at vi;subst vi;have asz:=aq VO;have asA:=aq (bz.out.below dX.out);have asB:af (∀dU,u8.ownBlock=some dU→dU<Bz∨wc.heap.size≤dU):=(by obtain⟨xs,lI,_⟩:=bz.out;rw[←Lt];exact fun dU h=>.inl (lI.lt dU h).2);have jo:cs.length≤2:=arv FX.out;have asC:af (acc.length≤2000000):=(by have:=EK.out;show _≤_;omega);have aeU:af (an wc g pe 153):=aU e0.out dX.out;have asD:=aq wb.out.1;clear Dq VO b5 bz wb Lt;go_wp2_with fail
     go_loopw [8,70] (fun c8 n cD=>∃q,q≤cs.length∧n=I (q:Int)∧af (jJ w.heap.size cD c8 (acc++(cs.take q).map fun c=>(x.a,c)))∧af (kD 104 wc cD)∧af (ao w w cD)∧af (∀dU,c8.ownBlock=some dU→dU<Bz∨wc.heap.size≤dU)∧af (∀dU,Bz≤dU→dU<wc.heap.size→cD.heap[dU]?=wc.heap[dU]?)) (fun _ n _=>cs.length -(intOf n).toNat)
     case atStart=>exact⟨0,eE _,rfl,by rw[OR,AS,List.append_nil];exact asA.out,⟨bx _,fun _ _ _ _ ax _=>ax⟩,Dj.out,asB.out,fun _ _ _=>rfl⟩
     case round=>
     obtain⟨q,aH,rfl,aeV,pP,yH,asE,aeW⟩:=hrel;by_cases asF:q<cs.length
     ·have ayk:(q:Int)<(cs.length:Int):=(by omega);obtain⟨b,aB,cur,rfl,aeX,Mo,lE⟩:=asz.out (by simp[tR];omega);obtain⟨pn,gg,nv,hz,Mr,VP,VQ⟩:=lE q (by simp[tR];omega);obtain⟨bj,VR⟩:=ar (cs[q]);have eJ:(tR cs)[q]'(by simp[tR];omega)=(0,bj):=(by simp[tR,VR]);simp only[eJ] at Mr VP VQ;have FQ:b<wc.heap.size:=(Array.getElem?_eq_some_iff.1 Mo).1;have aeY:an wr b cur 104:=(aeW.out b aeX FQ).trans Mo;obtain⟨a0,bE,a2,a3,a4,a5,rZ,qB,ta,a9,asG,asH⟩:=Mh (c:=bj) (a:=0) (o:=aB+q *12) aeY Mr;have UW:=pP.out.2 g _ _ _ aeU.out (by decide);have Qt:ak wr g o (I (x.a:Int)):=(by simp[World.cell?,UW,asD.out]);have asI:=aq ((VP.mono u'.out).keep pP.out (by decide));have asJ:=aq ((VQ.mono u'.out).keep pP.out (by decide) (by decide) (by decide));obtain⟨xs,lI,aeZ⟩:=aeV.out;obtain⟨N,h5⟩:=ar ((acc++(cs.take q).map fun c=>(x.a,c)).length);rw[h5] at lI;obtain⟨w3,vr,rfl⟩:=jf lI;have ayl:N≤3000000:=(by rw[←h5,hl,e6,kj];have:=asC.out;omega);have CE:=aq lI;have asK:=aq aeZ;have asL:=aq VR;have fQ:=aq h5;obtain⟨pN,Bv⟩:∃a:Int,(x.a:Int)=a:=⟨_,rfl⟩;rw[Bv] at Qt;have FR:=aq Bv;have aym:af (wc.heap.size≤wr.heap.size):=pP.out.1;clear aeX Mo lE Mr VP VQ eJ FQ aeY UW lI aeZ VR h5 Bv;go_upto_region 19 with fail;have I4:af ((wr.alloc (ai (#[I 0,I bj.k,I bj.n,I bj.m,U bj.on,aa ⟨bj.t.toArray⟩,aa ⟨bj.x.toArray⟩,aa ⟨bj.y.toArray⟩,aa ⟨bj.i.toArray⟩,aa ⟨bj.j.toArray⟩,ad pn bj.b6.length nv,ad gg bj.blocks.length hz]) 104)).heap[wr.heap.size]?=some (.cells #[I 0,I bj.k,I bj.n,I bj.m,U bj.on,aa ⟨bj.t.toArray⟩,aa ⟨bj.x.toArray⟩,aa ⟨bj.y.toArray⟩,aa ⟨bj.i.toArray⟩,aa ⟨bj.j.toArray⟩,ad pn bj.b6.length nv,ad gg bj.blocks.length hz] 104)∧ao wr wr (wr.alloc (ai (#[I 0,I bj.k,I bj.n,I bj.m,U bj.on,aa ⟨bj.t.toArray⟩,aa ⟨bj.x.toArray⟩,aa ⟨bj.y.toArray⟩,aa ⟨bj.i.toArray⟩,aa ⟨bj.j.toArray⟩,ad pn bj.b6.length nv,ad gg bj.blocks.length hz]) 104))):=⟨ga wr _,(Below.refl _ _).alloc (bx _) _⟩;have ae0:(wr.alloc (ai (#[I 0,I bj.k,I bj.n,I bj.m,U bj.on,aa ⟨bj.t.toArray⟩,aa ⟨bj.x.toArray⟩,aa ⟨bj.y.toArray⟩,aa ⟨bj.i.toArray⟩,aa ⟨bj.j.toArray⟩,ad pn bj.b6.length nv,ad gg bj.blocks.length hz]) 104)).cell? ⟨g,o,none⟩=some (I pN):=(I4.out.2.cell (p:=⟨g,o,none⟩) (asr Qt)).trans Qt;clear a0 bE a2 a3 a4 a5 rZ qB ta a9 asG asH Qt;generalize wr.alloc (.cells #[I 0,I bj.k,I bj.n,I bj.m,U bj.on,aa ⟨bj.t.toArray⟩,aa ⟨bj.x.toArray⟩,aa ⟨bj.y.toArray⟩,aa ⟨bj.i.toArray⟩,aa ⟨bj.j.toArray⟩,ad pn bj.b6.length nv,ad gg bj.blocks.length hz] 104)=gh at I4 ae0⊢;have Ms:af ((gh.setCell (aj wr.heap.size 0) (I pN)).heap[wr.heap.size]?=some (.cells #[I pN,I bj.k,I bj.n,I bj.m,U bj.on,aa ⟨bj.t.toArray⟩,aa ⟨bj.x.toArray⟩,aa ⟨bj.y.toArray⟩,aa ⟨bj.i.toArray⟩,aa ⟨bj.j.toArray⟩,ad pn bj.b6.length nv,ad gg bj.blocks.length hz] 104)∧ao wr wr (gh.setCell (aj wr.heap.size 0) (I pN))):=⟨TM I4.out.1 _,I4.out.2.setCell (bx _) _⟩;obtain⟨⟨d0,d1,d2,d3,d4,d5,d6,d7,d8,d9,d10,d11⟩,g0,g1,g2,g3,g4,g5,g6,g7,g8,g9,g10,g11⟩:=dj I4.out.1;go_upto_region 20 with fail;clear d0 d1 d2 d3 d4 d5 d6 d7 d8 d9 d10 d11 g0 g1 g2 g3 g4 g5 g6 g7 g8 g9 g10 g11 ae0 I4;generalize gh.setCell (aj wr.heap.size 0) (I pN)=dc at Ms⊢;obtain⟨⟨d0,d1,d2,d3,d4,d5,d6,d7,d8,d9,d10,d11⟩,_⟩:=dj Ms.out.1;obtain⟨i0,ln,dE,dP,dq⟩:=info_parts abW;have bZ:=aq (And.intro ln (And.intro dE (And.intro dP dq)));clear ln dE dP dq;have VS:af (ao wr wr (dc.alloc (ai (#[I pN,I bj.k,I bj.n,I bj.m,U bj.on,aa ⟨bj.t.toArray⟩,aa ⟨bj.x.toArray⟩,aa ⟨bj.y.toArray⟩,aa ⟨bj.i.toArray⟩,aa ⟨bj.j.toArray⟩,ad pn bj.b6.length nv,ad gg bj.blocks.length hz]) 104))):=Ms.out.2.alloc Ms.out.2.size _;go_wp2_with ((at_builtin;refine arf rfl _ _ _ rfl w.heap.size 104 i0 (.agg #[I 0,I 0,I 0,I 0,U false,aa ⟨#[]⟩,aa ⟨#[]⟩,aa ⟨#[]⟩,aa ⟨#[]⟩,aa ⟨#[]⟩,J 0,J 0]) 12 168 LQ bZ.out.1 bZ.out.2.1 bZ.out.2.2.1 bZ.out.2.2.2 rfl (by omega) (ad w3 N vr) N xs (by rfl) (e9 CE.out VS.out) (aj dc.heap.size 0) 1 1 rfl [I pN,I bj.k,I bj.n,I bj.m,U bj.on,aa ⟨bj.t.toArray⟩,aa ⟨bj.x.toArray⟩,aa ⟨bj.y.toArray⟩,aa ⟨bj.i.toArray⟩,aa ⟨bj.j.toArray⟩,ad pn bj.b6.length nv,ad gg bj.blocks.length hz] (by rfl) rfl (kc (ga dc _)) (by simp[Value.oneCell']) (by unfold maxLen;omega) (by omega) (by have:=yH.out.size;have:=Ms.out.2.size;simp<;>omega) ?_;intro v' w' gx iB ae1;obtain⟨g',mn,rfl,_,_⟩:=gx.form (by omega);have ae2:=aq (ass (a:=x.a) (c:=bj) FR.out fQ.out CE.out asK.out asI.out asJ.out VS.out iB gx yH.out);have VT:=aq (ast CE.out VS.out iB ae1 pP.out asE.out aeW.out);clear gx iB ae1));clear d0 d1 d2 d3 d4 d5 d6 d7 d8 d9 d10 d11
      go_roundw
      case rel=>
       refine⟨q+1,by omega,by go_num,?_,VT.out.1,ae2.out.2,VT.out.2.1,VT.out.2.2⟩;rw[P2,l8 asF,asL.out];simp only[Option.toList_some,nb,oH,AS,←List.append_assoc];exact ae2.out.1
      case measure=>simp[intOf]<;>omega
     ·obtain rfl:q=cs.length:=(by omega);have kP:af (VA (sU f2 (gQ.drop j) (acc++cs.map fun c=>(x.a,c)))=(l,i,e)):=eF.out;have ae3:af (jJ w.heap.size wr u8 (acc++cs.map fun c=>(x.a,c))):=(by have h:=aeV.out;rw[vD] at h;exact h);have VN:((j:Int)+1)≤(L:Int):=(by omega);have Mt:=aq (pP.out.2 g _ _ _ aeU.out (by decide));by_cases mY:j+1=cp
      ·have asM:((j:Int)+1)=(cp:Int):=(by omega);go_wp2_with fail
       go_roundw
       case rel=>
        have Qu:gQ.length+1=L:=w4.out;have AX:(gQ.drop j).length=0:=by rw[gI];omega
        exact ⟨f2,gQ.drop j,0,acc++cs.map fun c=>(x.a,c),_,0,o+(j+1) *4,rfl,AX,by omega,by omega,(by have:=vd.out;show _≤_;omega),ae3,yH,fun h=>absurd h (by rw[AX];decide),
         ⟨by have:=o6.out.1;rw[eP] at this;omega,fun y hy=>o6.out.2 y (Af _ (List.mem_of_mem_drop hy))⟩,
         (by have:=EK.out;rw[eP] at this;show (acc++cs.map fun c=>(x.a,c)).length+2 *(gQ.drop j).length≤_;rw[hl,e6];omega),kP⟩
       case measure=>show 0<L;omega
      ·have asM:((j:Int)+1)<(cp:Int):=(by omega);go_wp2_with fail
       go_roundw
       case rel=>
        have Qu:gQ.length+1=L:=w4.out;have AX:(gQ.drop j).length=(L -(j+1)):=by rw[gI];omega
        exact ⟨f2,gQ.drop j,(L -(j+1)),acc++cs.map fun c=>(x.a,c),_,(cp -(j+1)),o+(j+1) *4,rfl,AX,by omega,by omega,(by have:=vd.out;show _≤_;omega),ae3,yH,fun _=>⟨rfl,Mt.out,Bx.drop (k:=j+1) aeS.out⟩,
         ⟨by have:=o6.out.1;rw[eP] at this;omega,fun y hy=>o6.out.2 y (Af _ (List.mem_of_mem_drop hy))⟩,
         (by have:=EK.out;rw[eP] at this;show (acc++cs.map fun c=>(x.a,c)).length+2 *(gQ.drop j).length≤_;rw[hl,e6];omega),kP⟩
       case measure=>show (L -(j+1))<L;omega
 ·have L':((a1:Int) !=0)=true:=(by simp;omega);rw[arD hw he] at aA;simp only[fS] at aA;obtain⟨rfl,rfl,rfl⟩:=aA;clear hw he aS ez;go_wp2_with fail;go_ret3;exact⟨aO.out,_,rfl,jJ.nil _ _⟩
end gT
namespace c4
open Go.RowKit dH
open bS (C j7)
open gT (kS iX IL Mg Mh aeQ aeN Vy)
def Mu(bG:Nat)(l:List (Nat×C)):List dx×Nat×Nat→List dx×Nat×Nat
 |(o,i,f)=>if f=0 then (o,0,0) else if i<l.length then ([],((l.map Prod.fst)[i]?).getD 0,f) else ([],bG,f)
variable{s:au}
theorem asN{l:List (Nat×C)}{a:Nat}{b:Int}(h:j7 s=(l,a,0)):mQ s b=Mu s.length l (xn (l.map Prod.snd) b):=by unfold mQ Mu;rw[h];rfl
theorem asO{l:List (Nat×C)}{a e:Nat}{b:Int}(h:j7 s=(l,a,e))(he:e≠0):mQ s b=([],a,e):=by unfold mQ;rw[h];simp only;rw[a8 he]
theorem ae4(S:Ua)(hm:S.size≤1000000)(bu:Int)(w:aeo)(hR:(∀x∈(j7 S.data.toList).1,Dl x.2)∧qQ ((j7 S.data.toList).1.map Prod.snd) (qZ bu))(aA:(j7 S.data.toList).1.length≤500000)(res:List dx×Nat×Nat)(dQ:mQ S.data.toList bu=res):
  Calls Tryz.prog 19 #[aa S,I bu] w fun e w'=>IM w res e w':=by
 obtain⟨⟨l,a,pf⟩,hp⟩:=ar (j7 S.data.toList);have bN:=aq hp;rw[hp] at hR aA;have bq:=aq hR;have mB:l.length≤500000:=aA;have ae5:=aq dQ;have Bs:S.size≤maxLen:=by unfold maxLen;omega
 clear hp hR aA dQ;go_enter Tryz.func19,Tryz.ntmps19;go_wp2_with fail;with_reducible refine (aeQ S Bs w l a pf bN).mono ?_
 rintro e W ⟨ay,v,rfl,y1⟩;obtain⟨pp,cap,rfl,nn⟩:=Vy y1;have aO:=aq ay;have ae6:=aq nn;clear ay y1 nn;by_cases Hy:pf=0
 ·subst Hy;obtain⟨⟨aB,i,f⟩,nH⟩:=ar (xn (l.map Prod.snd) bu);have aP:af (Mu S.size l (aB,i,f)=res):=(by rw[←nH,←ae5.out];exact (asN bN.out).symm);have asP:=aq nH;obtain⟨n,hn⟩:=ar l.length;have bf:=aq hn;have uI:n≤500000:=(by rw[←hn];exact mB);rw[hn];clear nH hn;go_wp2_with fail;with_reducible refine (arO w.heap.size l pp n cap bf.out.symm bu W ae6 mB bq.out.1 bq.out.2 (aB,i,f) asP).mono ?_
  rintro e cm ⟨dA,q,d,rfl,wD⟩;have cP:=aq dA;have ae7:=aq wD;clear dA wD;by_cases nC:f=0
  ·subst nC;have eV:af ((aB,0,0)=res):=(by rw[←aP.out];exact rfl);go_wp2_with fail;go_ret3;rw[←eV.out];exact⟨aO.out.trans (cP.out.mono aO.out.size),q,d,rfl,ae7.out.mono fun k _ ax=>dB aO.out.size ax⟩
  ·have oa:(((f:Int)==0):Bool)=false:=(by rw[uO];omega);by_cases mc:i<n
   ·have VU:i<l.length:=(by rw[bf.out];exact mc);have ae8:(i:Int)<(n:Int):=(by omega);have ln:(0:Int)≤(i:Int):=(by omega);obtain⟨⟨ca,nz⟩,F3⟩:=ar (l[i]);obtain⟨b,o,bW,bU,cj,a7,rfl,ll,eJ,_,_⟩:=aec ae6.out VU F3;have hd:decide ((i:Int)<(n:Int))=true:=e' ae8;have eV:af (([],ca,f)=res):=(by show _=_;rw[←aP.out];unfold Mu;simp only;rw[aR nC,a8 VU,Ct,l8 VU,F3];rfl);have aj2:=vp ll cP.out eJ.1;have fa:=aq (aO.out.trans (cP.out.mono aO.out.size));clear eJ F3 ll ae7;go_upto_region 8 with fail
    go_quiet (fail)
    go_wp2_with fail;go_ret3;rw[←eV.out];exact⟨jQ fa.out _,none,0,rfl,.nil _ _ _⟩
   ·have ae8:¬(i:Int)<(n:Int):=(by omega);have eV:af (([],S.size,f)=res):=(by show _=_;rw[←aP.out];unfold Mu;simp only;rw[aR nC,aR (by rw[bf.out];exact mc)]);go_wp2_with fail;go_ret3;rw[←eV.out];exact⟨aO.out.trans (cP.out.mono aO.out.size),none,0,rfl,.nil _ _ _⟩
 ·have J':(((pf:Int) !=0):Bool)=true:=(by rw[xf];omega);have aP:af (([],a,pf)=res):=(by rw[←ae5.out];exact (asO bN.out Hy).symm);go_wp2_with fail;go_ret3;rw[←aP.out];exact⟨aO.out,none,0,rfl,.nil _ _ _⟩
end c4
namespace VV
open Go.RowKit
theorem disable(w:aeo):(callFunc 191 #[]).run Tryz.prog w=.ok (.value (.tuple #[])) w:=run_call_mark0 Tryz.func191 (by kernel_rfl) (by kernel_rfl) (by kernel_rfl) .disable (by kernel_rfl) w
theorem enable(w:aeo):(callFunc 193 #[]).run Tryz.prog w=.ok (.value (.tuple #[])) w:=run_call_mark0 Tryz.func193 (by kernel_rfl) (by kernel_rfl) (by kernel_rfl) .enable (by kernel_rfl) w
theorem acquire(a:Addr)(w:aeo):(callFunc 194 #[.pointer (some a)]).run Tryz.prog w=.ok (.value (.tuple #[])) w:=run_call_marked Tryz.func194 (by kernel_rfl) (by kernel_rfl) (by kernel_rfl) .acquire (by kernel_rfl) a w
theorem releaseMerge(a:Addr)(w:aeo):(callFunc 196 #[.pointer (some a)]).run Tryz.prog w=.ok (.value (.tuple #[])) w:=run_call_marked Tryz.func196 (by kernel_rfl) (by kernel_rfl) (by kernel_rfl) .releaseMerge (by kernel_rfl) a w
theorem asQ(a:Addr)(x:ada)(u:FrameMode)(w:aeo)(hc:w.cell? a=some x)(bn:w.frozen? a=false):
  CallsD Tryz.prog 111 #[.pointer (some a),U true] u w fun e Mv w'=>Mv=u∧(e=ab (.tuple #[])∧w'=w.drew.setCell a (.int .u32 1)):=by
 have qV:w.drew.cell? a=some x:=by go_simp
 have ac6:w.drew.frozen? a=false:=by go_simp
 have kQ:=run_call_store (P:=Tryz.prog) Tryz.func157 (by kernel_rfl) (by kernel_rfl) (by kernel_rfl) (by kernel_rfl) (k:=.u32) (y:=1) qV ac6
 go_enter_d Tryz.func111,Tryz.ntmps111
 go_wp2
 go_region_calls
 all_goals (go_end0;exact⟨rfl,rfl⟩)
theorem asR(a:Addr)(w:aeo)(hc:w.cell? a=some (.int .i32 1))(bn:w.frozen? a=false):
  Calls Tryz.prog 156 #[.pointer (some a)] w fun e w'=>e=ab (.tuple #[])∧w'=w.setCell a (.int .i32 0):=by
 have hd:=disable;have he:=enable;have hr:=releaseMerge;have zn:=VM (P:=Tryz.prog) Tryz.func76 (by kernel_rfl) (by kernel_rfl) (by kernel_rfl) .i32 (by kernel_rfl) (y:=-1) (s:=0) hc bn (by simp[go_sem];rfl);have yF:=aeM (P:=Tryz.prog) (src:=315) (dst:=318) Tryz.underlying315 Tryz.underlying318 (by kernel_rfl) hc;go_enter Tryz.func156,Tryz.ntmps156;go_wp2;go_end0;exact⟨rfl,rfl⟩
theorem asS(a:Addr)(u:FrameMode)(w:aeo)(hc:w.cell? a=some (.int .i32 1))(bn:w.frozen? a=false):
  CallsD Tryz.prog 110 #[.pointer (some a)] u w fun e Mv w'=>Mv=u∧(e=ab (.tuple #[])∧w'=w.setCell a (.int .i32 0)):=by
 go_enter_d Tryz.func110,Tryz.ntmps110
 go_wp2_with (go_at_call 156;refine (asR a _ hc bn).mono ?_;rintro e w' ⟨rfl,rfl⟩);go_end0;exact⟨rfl,rfl⟩
theorem asT(a:Addr)(w:aeo)(hc:w.cell? a=some (.int .i32 0))(bn:w.frozen? a=false):
  Calls Tryz.prog 155 #[.pointer (some a)] w fun e w'=>e=ab (.tuple #[])∧w'=w.setCell a (.int .i32 1):=by
 have hd:=disable;have he:=enable;have ha:=acquire;have ayn:=run_call_cas_hit (P:=Tryz.prog) Tryz.func192 (by kernel_rfl) (by kernel_rfl) (by kernel_rfl) .i32 (by kernel_rfl) (y:=1) hc bn;have qV:(w.setCell a (.int .i32 1)).cell? a=some (.int .i32 1):=World.cell?_setCell_same w a _ hc;have yF:=aeM (P:=Tryz.prog) (src:=315) (dst:=318) Tryz.underlying315 Tryz.underlying318 (by kernel_rfl) qV;go_enter Tryz.func155,Tryz.ntmps155;go_wp2;first|go_end0|(simp only[Exit.inBlock,Exit.then];refine dC (N9 rfl _ _ _) rfl ?_)|refine dC (N9 rfl _ _ _) rfl ?_
 exact⟨rfl,rfl⟩
theorem asU(a:Addr)(w:aeo)(hc:w.cell? a=some (.int .i32 0))(bn:w.frozen? a=false):
  Calls Tryz.prog 109 #[.pointer (some a)] w fun e w'=>e=ab (.tuple #[])∧w'=w.setCell a (.int .i32 1):=by
 go_enter Tryz.func109,Tryz.ntmps109;go_wp2_with (go_at_call 155;refine (asT a _ hc bn).mono ?_;rintro e w' ⟨rfl,rfl⟩);go_end0;exact⟨rfl,rfl⟩
end VV
namespace c4
open Go.RowKit dH
abbrev asV:TypeId:=148
abbrev hk(cf a:Int):Obj:=.cells #[I cf,I a] asV
theorem VW(n:Int)(w:aeo):Calls Tryz.prog 38 #[I n] w fun e w'=>e=ab (ah w.heap.size 0)∧w'=w.alloc (hk (max 0 (min n 100000000)) 0):=by go_enter Tryz.func38,Tryz.ntmps38;go_wp2_with fail;go_ret;exact⟨rfl,rfl⟩
theorem asW(b i:Nat)(a:Int)(aT:-1≤a∧a≤4611686018427387904)(w:aeo)(hc:ak w b i (I a))(bn:w.frozen? ⟨b,i,none⟩=false):Calls Tryz.prog 172 #[ah b i,I 1] w fun e w'=>e=ab (I (a+1))∧w'=w.setCell (aj b i) (I (a+1)):=by have zn:=VM (P:=Tryz.prog) Tryz.func216 (by kernel_rfl) (by kernel_rfl) (by kernel_rfl) .i64 (by kernel_rfl) (y:=1) (s:=a+1) hc bn (by simp[go_sem,cX (a+1) (by omega)]);go_enter Tryz.func172,Tryz.ntmps172;go_wp2;go_ret;exact⟨rfl,rfl⟩
theorem Qv{w:aeo}{k:Nat}{m a:Int}(h:w.heap[k]?=some (hk m a)):ak w k 0 (I m)∧ak w k 1 (I a)∧w.frozen? ⟨k,1,none⟩=false:=by refine⟨?_,?_,?_⟩<;>simp[World.cell?,World.frozen?,h]
theorem ae9{w:aeo}{k:Nat}{m a:Int}(b:Int)(h:w.heap[k]?=some (hk m a)):(w.setCell (aj k 1) (I b)).heap[k]?=some (hk m b):=dL _ h
theorem asX(g:Nat)(cf a:Int)(aT:-1≤a∧a≤4611686018427387904)(w:aeo)(H:af (w.heap[g]?=some (hk cf a)))(f:Bool)(hf:af (decide (a+1≤cf)=f)):Calls Tryz.prog 125 #[ah g 0] w fun e w'=>e=ab (U f)∧w'.heap[g]?=some (hk cf (a+1))∧aQ (fun k=>k≠g) w w':=by
 have di:af (w.drew.heap[g]?=some (hk cf a)):=H.out;have bz:af (ak w.drew g 1 (I a)∧w.drew.frozen? ⟨g,1,none⟩=false):=(Qv di.out).2;have cc:=aq aT;have oV:af (ak w g 0 (I cf)):=(Qv H.out).1;have H1:af (ak w.drew g 0 (I cf)):=(Qv H.out).1;have c1:af ((w.drew.setCell (aj g 1) (I (a+1))).cell? ⟨g,0,none⟩=some (I cf)):=(Qv (ae9 (a+1) di.out)).1;go_enter Tryz.func125,Tryz.ntmps125;go_upto_region 1 with fail
 go_region_held3 (fun Z=>Z.cell? ⟨g,0,none⟩=some (I cf)) (first|exact oV.out|exact H1.out|exact c1.out|assumption|fail) (first|(go_at_call 172;with_reducible refine (asW g 1 a cc.out _ bz.out.1 bz.out.2).mono ?_;rintro e bt ⟨rfl,rfl⟩)|fail)
 go_wp2_with fail;go_ret;refine⟨ej hf.out,ae9 _ di.out,?_⟩;exact (aQ.dI (Below.refl _ _).drew).trans (aQ.set (a:=⟨g,1,none⟩) (fun h=>h rfl) _)
abbrev Mw(a b c d:bO):List Value:=[I a.aD,I a.aC,I a.aG,I a.aE,I b.aD,I b.aC,I b.aG,I b.aE,I c.aD,I c.aC,I c.aG,I c.aE,I d.aD,I d.aC,I d.aG,I d.aE]
abbrev Dr(aD aC aG aE x y:Int):List Value:=Mw ⟨aD,aC,x,y⟩ ⟨x,aC,aG,y⟩ ⟨aD,y,x,aE⟩ ⟨x,y,aG,aE⟩
theorem Qw{b:bO}(h:okB b=true):(b.aD≤b.aG∧b.aC≤b.aE)∧(-536870912≤b.aD∧b.aD≤536870912)∧(-536870912≤b.aC∧b.aC≤536870912)∧(-536870912≤b.aG∧b.aG≤536870912)∧(-536870912≤b.aE∧b.aE≤536870912):=by simp only[okB,sP,ix,iO] at h;omega
theorem asY{b:bO}(h:okB b=true):Kj b:=by obtain⟨av,az,aF,bk,b9⟩:=Qw h;exact⟨⟨az,aF⟩,⟨bk,b9⟩,by simp[rH];omega⟩
theorem asZ(aD aC aG aE:Int)(eC:okB ⟨aD,aC,aG,aE⟩=true)(hx:(aG-aD)%2=0∧0<aG-aD)(hy:(aE-aC)%2=0∧0<aE-aC)(x y:Int)(dd:aD+(aG-aD)/ 2=x)(lj:aC+(aE-aC)/ 2=y)(w:aeo):
  Calls Tryz.prog 127 #[h7 ⟨aD,aC,aG,aE⟩] w fun e w'=>e=ab (.tuple #[.agg (Dr aD aC aG aE x y).toArray,U true])∧ao w w w':=by
 obtain⟨av,az,aF,bk,b9⟩:=Qw eC;have nP:=aq eC;obtain⟨a,ha⟩:=ar (aG-aD);obtain⟨b,ay⟩:=ar (aE-aC);simp only at av az aF bk b9;have bV:ae (aG-aD)=a:=by rw[cX _ (by omega),ha]
 have bY:ae (aE-aC)=b:=by rw[cX _ (by omega),ay]
 rw[ha] at hx dd;rw[ay] at hy lj;have t1:a.tmod 2=0:=by rw[y7 (by omega)];exact hx.1
 have t2:b.tmod 2=0:=by rw[y7 (by omega)];exact hy.1
 have t3:a.tdiv 2=a/2:=Aq (by omega);have t4:b.tdiv 2=b/2:=Aq (by omega);have t5:ae (a/2)=a/2:=cX _ (by omega);have t6:ae (b/2)=b/2:=cX _ (by omega);have t7:ae (aD+a/2)=x:=by rw[cX _ (by omega),dd]
 have t8:ae (aC+b/2)=y:=by rw[cX _ (by omega),lj]
 have a0:(a==0)=false:=by simp;omega
 have cy:(b==0)=false:=by simp;omega
 have ayo:¬a=0:=by omega
 have wQ:¬b=0:=by omega
 clear av az aF bk b9 eC ha ay hx hy dd lj;go_enter Tryz.func127,Tryz.ntmps127;go_upto_region 1 with fail;obtain⟨ayp,eG⟩:∃z:aev,[I 0,I 0,I 0,I 0,I 0,I 0,I 0,I 0,I 0,I 0,I 0,I 0,I 0,I 0,I 0,I 0]=z:=⟨_,rfl⟩;obtain⟨W,br⟩:=ar ((w.alloc (cU ⟨aD,aC,aG,aE⟩)).alloc (ai ((Mw eh eh eh eh).toArray) 251));have aO:af (ao w w W):=by show Below _ _ _;rw[←br];exact nI _ _ _
 have cc:af (W.heap[w.heap.size]?=some (cU ⟨aD,aC,aG,aE⟩)):=by show _=_;rw[←br];exact aU (cd _ _) (a' _ _)
 have bz:af (an W (w.heap.size+1) ((Mw eh eh eh eh).toArray) 251):=by show _=_;rw[←br];exact uJ _ _ _
 change Code.wp _ _ _ _ ((w.alloc (cU ⟨aD,aC,aG,aE⟩)).alloc (ai ((Mw eh eh eh eh).toArray) 251));rw[br];clear br eG;obtain⟨aN,aL,aI,c3⟩:=hb cc.out;go_wp2_with fail;with_reducible refine (ZH ⟨aD,aC,aG,aE⟩ true nP _).mono ?_
 rintro e V ⟨rfl,ay⟩;have c6:af (ao w w V):=aO.out.trans (ay.mono aO.out.size);have jc:=aq (aU cc.out ay);have oi:=aq (aU bz.out ay);clear aN aL aI c3 ay;obtain⟨aN,aL,aI,c3⟩:=hb jc.out;go_upto_region 3 with fail
 go_quiet (fail)
 go_upto_region 6 with fail
 go_quiet (fail)
 generalize Qx:World.drewN _ _=lF;have cP:af (ao w w lF):=by show Below _ _ _;rw[←Qx];exact jQ (jQ c6.out _) _
 have jT:af (lF.heap[w.heap.size]?=some (cU ⟨aD,aC,aG,aE⟩)):=by show _=_;rw[←Qx];exact jc.out
 have gn:af (an lF (w.heap.size+1) ((Mw eh eh eh eh).toArray) 251):=by show _=_;rw[←Qx];exact oi.out
 clear aN aL aI c3 Qx;obtain⟨aN,aL,aI,c3⟩:=hb jT.out;have bQ:=cell_of (i:=0) gn.out rfl;have bU:=cell_of (i:=1) gn.out rfl;have a7:=cell_of (i:=2) gn.out rfl;have il:=cell_of (i:=3) gn.out rfl;have rb:=cell_of (i:=4) gn.out rfl;have ri:=cell_of (i:=5) gn.out rfl;have E1:=cell_of (i:=6) gn.out rfl;have E2:=cell_of (i:=7) gn.out rfl;have E3:=cell_of (i:=8) gn.out rfl;have wA:=cell_of (i:=9) gn.out rfl;have E4:=cell_of (i:=10) gn.out rfl;have Mk:=cell_of (i:=11) gn.out rfl;have afa:=cell_of (i:=12) gn.out rfl;have afb:=cell_of (i:=13) gn.out rfl;have afc:=cell_of (i:=14) gn.out rfl;have ayq:=cell_of (i:=15) gn.out rfl;have ei:=cR gn.out;go_wp2_with fail;have jV:=oU (Dr aD aC aG aE x y) gn.out rfl;have ay:=tf (m:=0) (b:=w.heap.size+1) (nX _) (Dr aD aC aG aE x y) cP.out;exact dC (l6 rfl _ _ (w.heap.size+1) _ _ _ _ rfl jV Tryz.underlying251 rfl (by kernel_rfl)) rfl ⟨rfl,ay⟩
end c4
namespace c4
open Go.RowKit dH
open bS (C j7)
abbrev qR:TypeId:=128
abbrev ru(S:Ua)(bu d st sm mk:Int)(ov:ada)(i e:Int):Array Value:= #[aa S,I bu,.int .u32 d,.int .i32 st,.int .u32 sm,.int .i32 mk,ov,I i,I e]
theorem as0(b i:Nat)(w:aeo)(hc:ak w b i (.int .i32 0))(bn:w.frozen? ⟨b,i,none⟩=false):Calls Tryz.prog 49 #[ah b i,.int .i32 1] w fun e w'=>e=ab (.int .i32 1)∧w'=w.setCell (aj b i) (.int .i32 1):=by have zn:=VM (P:=Tryz.prog) Tryz.func76 (by kernel_rfl) (by kernel_rfl) (by kernel_rfl) .i32 (by kernel_rfl) (y:=1) (s:=1) hc bn (by simp[go_sem];rfl);go_enter Tryz.func49,Tryz.ntmps49;go_wp2_with fail;go_ret;exact⟨rfl,rfl⟩
variable{w x:aeo}
theorem IM.get{r:List dx×Nat×Nat}{e:Ending}{w':aeo}(h:IM w r e w'):ao w w w'∧∃q d,e=ab (.tuple #[ad q r.1.length d,I (r.2.1:Int),I (r.2.2:Int)])∧h9 (fun k=>w.heap.size≤k) w' q r.1:=h
abbrev as1(S:Ua)(bu:Int)(v6 db c8:ada):Array Value:= #[aa S,I bu,.int .u32 0,.int .i32 1,.int .u32 0,.int .i32 0,v6,db,c8]
structure rv(w:aeo)(q b:Nat)(S:Ua)(bu:Int)(v6 db c8:ada)(x:aeo):Prop where
 aH:an x q (#[.pointer (some (aj b 0))]) 59
 ay:an x b (as1 S bu v6 db c8) qR
 ax:aQ (fun k=>k≠b) w x
abbrev vt(w:aeo)(q b:Nat)(S:Ua)(bu:Int)(x:aeo):Prop:=
 x.cell? ⟨q,0,none⟩=some (.pointer (some (aj b 0)))∧ak x b 0 (aa S)∧ak x b 1 (I bu)∧
 ak x b 6 (k' x b 6)∧x.frozen? ⟨b,6,none⟩=false∧ak x b 7 (k' x b 7)∧x.frozen? ⟨b,7,none⟩=false∧ak x b 8 (k' x b 8)∧x.frozen? ⟨b,8,none⟩=false∧∃v6 db c8,rv w q b S bu v6 db c8 x
variable{q b:Nat}{S:Ua}{bu:Int}{v6 db c8:ada}
theorem I5(h:rv w q b S bu v6 db c8 x):vt w q b S bu x:=
 ⟨cell_of h.aH rfl,cell_of h.ay rfl,cell_of h.ay rfl,oQ (cell_of h.ay rfl),cR h.ay 6,oQ (cell_of h.ay rfl),cR h.ay 7,oQ (cell_of h.ay rfl),cR h.ay 8,_,_,_,h⟩
theorem Qy(h:vt w q b S bu x):∃v6 db c8,rv w q b S bu v6 db c8 x:=h.2.2.2.2.2.2.2.2.2
theorem rv.below{y:aeo}(h:rv w q b S bu v6 db c8 x)(ay:ao x x y):rv w q b S bu v6 db c8 y:=⟨aU h.aH ay,aU h.ay ay,h.ax.trans (aQ.dI ay)⟩
theorem rv.afd(lP:q≠b)(h:rv w q b S bu v6 db c8 x)(u:ada):rv w q b S bu u db c8 (x.setCell (aj b 6) u):=⟨(mw lP).trans h.aH,(by have:=dL (i:=6) u h.ay;exact this),h.ax.trans (aQ.set (a:=⟨b,6,none⟩) (fun ax=>ax rfl) _)⟩
theorem rv.afe(lP:q≠b)(h:rv w q b S bu v6 db c8 x)(u:ada):rv w q b S bu v6 u c8 (x.setCell (aj b 7) u):=⟨(mw lP).trans h.aH,(by have:=dL (i:=7) u h.ay;exact this),h.ax.trans (aQ.set (a:=⟨b,7,none⟩) (fun ax=>ax rfl) _)⟩
theorem rv.aff(lP:q≠b)(h:rv w q b S bu v6 db c8 x)(u:ada):rv w q b S bu v6 db u (x.setCell (aj b 8) u):=⟨(mw lP).trans h.aH,(by have:=dL (i:=8) u h.ay;exact this),h.ax.trans (aQ.set (a:=⟨b,8,none⟩) (fun ax=>ax rfl) _)⟩
theorem as2{y:aeo}(ay:ao x x y)(h:vt w q b S bu x):vt w q b S bu y:=by obtain⟨_,_,_,h⟩:=Qy h;exact I5 (h.below ay)
theorem as3(lP:q≠b)(u:ada)(h:vt w q b S bu x):vt w q b S bu (x.setCell (aj b 6) u):=by obtain⟨_,_,_,h⟩:=Qy h;exact I5 (h.afd lP u)
theorem as4(lP:q≠b)(u:ada)(h:vt w q b S bu x):vt w q b S bu (x.setCell (aj b 7) u):=by obtain⟨_,_,_,h⟩:=Qy h;exact I5 (h.afe lP u)
theorem as5(lP:q≠b)(u:ada)(h:vt w q b S bu x):vt w q b S bu (x.setCell (aj b 8) u):=by obtain⟨_,_,_,h⟩:=Qy h;exact I5 (h.aff lP u)
def w5(S:Ua)(bu:Int):Prop:=S.size≤1000000∧((∀x∈(j7 S.data.toList).1,Dl x.2)∧qQ ((j7 S.data.toList).1.map Prod.snd) (qZ bu))∧(j7 S.data.toList).1.length≤500000
theorem as6(b q:Nat)(lP:q≠b)(S:Ua)(bu:Int)(eC:w5 S bu)(aB:List dx)(i f:Nat)(dQ:mQ S.data.toList bu=(aB,i,f))(w:aeo)(aH:an w q (#[.pointer (some (aj b 0))]) 59)(ay:an w b (ru S bu 0 1 0 0 (J 0) 0 0) qR):
  Calls Tryz.prog 48 #[ah q 0] w fun e w'=>e=ab (.tuple #[])∧∃fD d,an w' b (ru S bu 0 1 0 1 (ad fD aB.length d) i f) qR∧h9 (fun k=>w.heap.size≤k) w' fD aB∧aQ (fun k=>k≠b) w w':=by
 have aP:=aq (ae4 S eC.1 bu w.drew eC.2.1 eC.2.2 (aB,i,f) dQ);have bd:=aq aH;have Ft:=aq ay;have ayr:=lt_of_heap aH;have FQ:=lt_of_heap ay;obtain⟨n,hn⟩:=ar aB.length;have bf:=aq hn;clear eC dQ aH ay hn;go_enter Tryz.func48,Tryz.ntmps48;have bM:af (rv w q b S bu (J 0) (I 0) (I 0) w):=⟨bd.out,Ft.out,.refl _ _⟩;have fo:af (vt w q b S bu w.drew):=I5 (bM.out.below (Below.refl _ _).drew);have r9:af (vt w q b S bu w):=I5 bM.out;go_upto_region 0 with fail
 go_region_held3 (fun Z=>vt w q b S bu Z) (first|with_reducible exact fo.out|with_reducible exact r9.out|with_reducible exact as2 (by assumption) (by assumption)|with_reducible exact as3 lP _ (by assumption)|with_reducible exact as4 lP _ (by assumption)|with_reducible exact as5 lP _ (by assumption)|assumption|fail) (first|(go_at_call 19;(with_reducible refine (aP.out).mono ?_);intro e cZ mJ;obtain⟨ev,fh,d6,rfl,afg⟩:=IM.get mJ)|fail)
 all_goals
  have sC:=aq ((((bM.out.below (Below.refl _ _).drew).below ev).afd lP (ad fh aB.length d6)).afe lP (I (i:Int))|>.aff lP (I (f:Int)));have x4:af (h9 (fun k=>w.heap.size≤k∧k≠b) cZ fh aB):=afg.mono fun k _ ax=>⟨ax,fun e=>by have av:w.heap.size≤k:=ax;omega⟩;have Qz:=aq (x4.out.keep (((aQ.set (a:=⟨b,6,none⟩) (S:=fun k=>w.heap.size≤k∧k≠b) (w:=cZ) (fun ax=>ax.2 rfl) (ad fh aB.length d6)).trans (aQ.set (a:=⟨b,7,none⟩) (fun ax=>ax.2 rfl) (I (i:Int)))).trans (aQ.set (a:=⟨b,8,none⟩) (fun ax=>ax.2 rfl) (I (f:Int)))));clear ev afg fo r9;generalize ((cZ.setCell (aj b 6) (ad fh aB.length d6)).setCell (aj b 7) (I (i:Int))).setCell (aj b 8) (I (f:Int))=gH at sC Qz⊢;have aD:=cell_of (i:=0) sC.out.aH rfl;have c5:ak gH b 5 (.int .i32 0):=cell_of (i:=5) sC.out.ay rfl;have g5:=cR sC.out.ay 5;go_wp2_with fail;with_reducible refine (as0 b 5 gH c5 g5).mono ?_
  rintro e ki ⟨rfl,rfl⟩;clear aD c5 g5;go_wp2_with fail;go_end0;refine⟨rfl,fh,d6,?_,(Qz.out.mono fun k _ ax=>ax).keep (aQ.set (a:=⟨b,5,none⟩) (fun ax=>ax.2 rfl) _)|>.mono fun k _ ax=>ax.1,sC.out.ax.trans (aQ.set (a:=⟨b,5,none⟩) (fun ax=>ax rfl) _)⟩;have:=dL (i:=5) (.int .i32 1) sC.out.ay;exact this
end c4
namespace c4
open Go.RowKit dH
open bS (C j7)
open gT (eW)
def VX(t:au):Bool:=decide (t=[67])||(decide (t=[82])|| decide (t=[79]))
def qS(c:C):Bool:=decide (yz c.k c.n)&&(decide (c.b6.length≤1000000)&&(c.b6.all (fun x=>decide (-4611686018427387904≤x)&&decide (x≤4611686018427387904))&&(decide (c.x.length≤1000000)&&(decide (c.y.length≤1000000)&&(decide (c.i.length≤1000000)&&(decide (c.j.length≤1000000)&&(decide (c.k≠10)|| VX c.t)))))))
theorem Mx{c:C}(h:qS c=true):Dl c∧Mj c:=by
 unfold qS at h;simp only[ix,iO,SI,DS] at h;obtain⟨av,az,aF,bk,b9,cW,eN,ff⟩:=h;refine⟨⟨av,by omega,aF,fun i=>?_⟩,fun ax w0 Z B nq mK u ms hn VY eK bD ay _ _ _=>?_⟩
 ·unfold nk;split<;>omega
 ·refine PO c.t ?_ c.b6 nq mK u ms eK B VY (aq (hn.below ay)) (by omega);rcases ff with ff|ff
  ·exact absurd ax ff
  ·unfold VX at ff;simpa using ff
theorem QA{S:Ua}{bu:Int}(hs:S.size≤1000000)(h:(j7 S.data.toList).1.all (fun x=>qS x.2)=true)(aA:(j7 S.data.toList).1.length≤500000):w5 S bu:=
 ⟨hs,⟨fun x hx=>(Mx (List.all_eq_true.1 h x hx)).1,qQ.of _ fun c hc=>by obtain⟨x,hx,rfl⟩:=List.mem_map.1 hc;exact (Mx (List.all_eq_true.1 h x hx)).2⟩,aA⟩
end c4
namespace c4
open Go.RowKit dH VV
open bS (C j7)
theorem afh(a:Addr)(v:Int)(f:Bool)(hf:(v !=0)=f)(w:aeo)(aT:w.cell? a=some (.int .u32 v)):Calls Tryz.prog 74 #[.pointer (some a)] w fun e w'=>e=ab (U f)∧w'=w:=by have aA:=run_call_load (P:=Tryz.prog) Tryz.func108 (by kernel_rfl) (by kernel_rfl) (by kernel_rfl) .u32 (by kernel_rfl) aT;subst hf;go_enter Tryz.func74,Tryz.ntmps74;go_wp2;go_ret;exact⟨rfl,rfl⟩
theorem as7(b q:Nat)(lP:q≠b)(S:Ua)(bu:Int)(eC:w5 S bu)(aB:List dx)(i f:Nat)(dQ:mQ S.data.toList bu=(aB,i,f))(w:aeo)(aH:an w q (#[.pointer (some (aj b 0))]) 59)(ay:an w b (ru S bu 0 0 0 0 (J 0) 0 0) qR):
  Calls Tryz.prog 75 #[ah b 2,.func (.func 48) #[] #[ah q 0]] w fun e w'=>e=ab (.tuple #[])∧∃fD d,an w' b (ru S bu 1 0 0 1 (ad fD aB.length d) i f) qR∧h9 (fun k=>w.heap.size≤k) w' fD aB∧aQ (fun k=>k≠b) w w':=by
 have as8:∀(x:Bool) (w:aeo),(Op.unary .not (U x)).run Tryz.prog w=.ok (U (!x)) w:=fun _ _=>rfl;have c3:=cell_of (i:=3) ay rfl;have f3:=cR ay 3;have as9:(w.setCell (aj b 3) (.int .i32 1)).heap[q]?=some (.cells #[ah b 0] 59):=(mw lP).trans aH;have afi:(w.setCell (aj b 3) (.int .i32 1)).heap[b]?=some (.cells (ru S bu 0 1 0 0 (J 0) 0 0) qR):=by have:=dL (i:=3) (.int .i32 1) ay;exact this
 have jo:=as6 b q lP S bu eC aB i f dQ _ as9 afi;have aI:=cell_of (i:=2) afi rfl;have eI:aQ (fun k=>k≠b) w (w.setCell (aj b 3) (.int .i32 1)):=aQ.set (a:=⟨b,3,none⟩) (fun ax=>ax rfl) _;have gK:(w.setCell (aj b 3) (.int .i32 1)).heap.size=w.heap.size:=Su _ _ _
 go_enter_defers Tryz.func75,Tryz.ntmps75
 go_wp2_with (go_at_call 109;refine (asU (aj b 3) _ c3 f3).mono ?_;rintro e w' ⟨rfl,rfl⟩);go_wp2_with (go_at_call 74;refine (afh (aj b 2) 0 false rfl _ aI).mono ?_;rintro e w' ⟨rfl,rfl⟩);go_wp2_with (go_at_call 48;refine jo.mono ?_;rintro e cZ ⟨rfl,fD,d,ev,My,kK⟩);have z2:=cell_of (i:=2) ev rfl;have g2:=cR ev 2;have wU:(cZ.drew.setCell (aj b 2) (.int .u32 1)).heap[b]?=some (.cells (ru S bu 1 1 0 1 (ad fD aB.length d) i f) qR):=by have:=dL (w:=cZ.drew) (i:=2) (.int .u32 1) ev;exact this
 have z3:=cell_of (i:=3) wU rfl;have g3:=cR wU 3;refine leaves_cons (f:=111) (args:= #[.pointer (some (aj b 2)),U true]) (by simp) (by simp[go_sem]) ?_;refine (asQ (aj b 2) (.int .u32 0) .returning _ z2 g2).mono ?_;rintro e Mv ata ⟨rfl,rfl,rfl⟩;refine leaves_cons (f:=110) (args:= #[.pointer (some (aj b 3))]) (by simp[settle]) (by simp[go_sem]) ?_;refine (asS (aj b 3) _ _ z3 g3).mono ?_;rintro e Mv ata ⟨rfl,rfl,rfl⟩;have mg:aQ (fun k=>k≠b) cZ ((cZ.drew.setCell (aj b 2) (.int .u32 1)).setCell (aj b 3) (.int .i32 0)):=((aQ.dI (Below.refl _ _).drew).trans (aQ.set (a:=⟨b,2,none⟩) (fun ax=>ax rfl) _)).trans (aQ.set (a:=⟨b,3,none⟩) (fun ax=>ax rfl) _);have I6:((cZ.drew.setCell (aj b 2) (.int .u32 1)).setCell (aj b 3) (.int .i32 0)).heap[b]?=some (.cells (ru S bu 1 0 0 1 (ad fD aB.length d) i f) qR):=by have:=dL (i:=3) (.int .i32 0) wU;exact this
 have FQ:=lt_of_heap ay;rw[gK] at My;have atb:=(My.mono (R:=fun k=>w.heap.size≤k∧k≠b) (fun k _ ax=>⟨ax,by have av:w.heap.size≤k:=ax;omega⟩)).keep (mg.mono fun k _ ax=>ax.2);refine⟨.tuple #[],by simp[results,Tryz.results75],rfl,fD,d,I6,atb.mono fun k _ ax=>ax.1,(eI.trans kK).trans mg⟩
end c4
