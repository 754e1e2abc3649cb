/- Lemmas. -/
import Derived.Test.YtfldplmgkeiimaaGreatDoorQ30
set_option linter.all false
set_option maxRecDepth 100000
set_option maxHeartbeats 25600000
namespace Go.Proofs.YtfldplmgkeiimaaGreatDoor
abbrev I7:=@Proofs.Tryz.results137
namespace jj
open Go.RowKit pH kG qk Mem rG cf
theorem ap1(S:aia)(hs:S.size≤1000000000)(w:bTo):
  Calls Tryz.prog 179 #[au S] w fun e w'=>e=bb (au S)∧av w w w':=by
 have adK:S.size≤281474976710656:=by omega
 have dR:=U adK;clear hs adK;go_enter Tryz.func179,Tryz.ntmps179;go_wp2_with fail;go_fit (Tryz.stringslite_Clone S _ dR.out);rintro e cr ⟨rfl,af⟩;have aH:=U af;clear af;go_wp2_with fail;go_ret;exact⟨rfl,aH.out⟩
variable{s:bk}{n B k:Nat}
theorem ap2(h:Ke s=.error n):n≠0:=by
 unfold Ke at h;split at h
 ·cases h;decide
 ·split at h
  ·cases h;decide
  ·split at h;split at h
   ·rename_i aQ;cases h;exact aQ
   ·cases h
theorem adL:∀{f:Nat} {s:bk} {acc:List (List (Int×Int))} {n:Nat},zs f s acc=.error n→n≠0
 |0,s,acc,n,h=>by cases h
 |f+1,s,acc,n,h=>by
  rw[adJ] at h;split at h
  ·cases h;decide
  ·split at h;split at h
   ·rename_i aQ;cases h;exact aQ
   ·split at h
    ·exact adL h
    ·cases h
theorem ap3(h:wu s=.error n):n≠0:=by
 unfold wu at h;split at h
 ·cases h;decide
 ·split at h
  ·cases h;decide
  ·split at h
   ·cases h;decide
   ·split at h
    ·rename_i ah;cases h;exact adL ah
    ·split at h<;>cases h;decide
theorem ap4(h:AQ s=.error n):n≠0:=by
 unfold AQ at h;split at h
 ·cases h
 ·split at h
  ·cases h
  ·split at h
   ·exact ap2 h
   ·exact ap3 h
theorem ap5(S:aia)(hs:S.size≤1000000000)(res:Except Nat eI)(hr:J (AQ S.data.toList=res))(w:bTo):
  Calls Tryz.prog 137 #[au S] w (Wd res w):=by
 have cF:=U hs;have aj:=hr.out;unfold AQ at aj;clear hr hs;have aV:J (xf w (w.alloc (aD (#[I 0,I 0,au ⟨#[]⟩,ay 0]) 259))):=Wc w;go_enter Tryz.func137,Tryz.ntmps137;go_upto_region 1 with fail;generalize w.alloc (.cells #[I 0,I 0,au ⟨#[]⟩,ay 0] 259)=W at aV⊢;by_cases bN:S.data.toList=[48]
 ·rw[aT bN] at aj;have a7:J (Except.ok {cf.bX with k:=1}=res):=aj;have aN:(S.toList==[48])=true:=(by rw[e2];exact eH bN);clear aj bN;have s7:=U (I5 aV.out.a ({cf.bX with k:=1}:eI) (ay 0));have aE:=U (qx aV.out ({cf.bX with k:=1}:eI) (ay 0));obtain⟨⟨aJ,aI,c2,c3⟩,f0,f1,f2,f3⟩:=hT aV.out.a;go_wp2_with fail;refine dH (w:=iz W w.heap.size ({cf.bX with k:=1}:eI) (ay 0)) (v:=.tuple #[kV ({cf.bX with k:=1}:eI) (ay 0),I 0]) ?_ rfl ?_
  ·clear aJ aI c2 c3 f0 f1 f2 f3 s7;generalize iz W w.heap.size ({cf.bX with k:=1}:eI) (ay 0)=fB at aE⊢;obtain⟨⟨aJ,aI,c2,c3⟩,_⟩:=hT aE.out.1;simp[results,I7,go_sem,aJ,aI,c2,c3]<;>rfl
  ·rw[←a7.out];exact⟨aE.out.2,_,_,rfl,mH.nil _ _ _⟩
 ·rw[aK bN] at aj;have aN:(S.toList==[48])=false:=(by rw[e2];exact eD bN);by_cases ch:S.data.toList.take 2=[48,32]
  ·rw[aT ch] at aj;have bL:J (decide (S.data.toList.take (⟨#[48,32]⟩:aia).data.toList.length=(⟨#[48,32]⟩:aia).data.toList)=true):=eH ch;have ah:(2:Int)≤(S.size:Int):=(by have aa:=gb List.length ch;rw[mf,cR] at aa;simp at aa;omega);have dp:S.data.toList.drop 2=(S.extract 2 S.size).data.toList:=(nd S 2).symm;have yP:J ((S.extract 2 S.size).size≤1000000000):=(by show _≤_;rw[←cR,nd,gZ,cR];have:=cF.out;omega);rw[dp] at aj;have a7:J (Except.ok {cf.bX with k:=1,t:=(S.extract 2 S.size).data.toList}=res):=aj;clear aj bN ch dp;go_wp2_with fail;go_fit (yp _ _ _ bL _);rintro e dJ ⟨rfl,rfl⟩;go_wp2_with fail;go_fit (ap1 (S.extract 2 S.size) yP.out _);rintro e bt ⟨rfl,dT⟩;have yR:=U (aV.out.below dT);clear dT aV;have aV:=yR;clear yR;have s7:=U (I5 aV.out.a ({cf.bX with k:=1,t:=(S.extract 2 S.size).data.toList}:eI) (ay 0));have aE:=U (qx aV.out ({cf.bX with k:=1,t:=(S.extract 2 S.size).data.toList}:eI) (ay 0));obtain⟨⟨aJ,aI,c2,c3⟩,f0,f1,f2,f3⟩:=hT aV.out.a;go_wp2_with fail;refine dH (w:=iz bt w.heap.size ({cf.bX with k:=1,t:=(S.extract 2 S.size).data.toList}:eI) (ay 0)) (v:=.tuple #[kV ({cf.bX with k:=1,t:=(S.extract 2 S.size).data.toList}:eI) (ay 0),I 0]) ?_ rfl ?_
   ·clear aJ aI c2 c3 f0 f1 f2 f3 s7;generalize iz bt w.heap.size ({cf.bX with k:=1,t:=(S.extract 2 S.size).data.toList}:eI) (ay 0)=fB at aE⊢;obtain⟨⟨aJ,aI,c2,c3⟩,_⟩:=hT aE.out.1;simp[results,I7,go_sem,aJ,aI,c2,c3]<;>rfl
   ·rw[←a7.out];exact⟨aE.out.2,_,_,rfl,mH.nil _ _ _⟩
  ·rw[aK ch] at aj;have bL:J (decide (S.data.toList.take (⟨#[48,32]⟩:aia).data.toList.length=(⟨#[48,32]⟩:aia).data.toList)=false):=eD ch;have ho:J (decide (S.data.toList.take (⟨#[36]⟩:aia).data.toList.length=(⟨#[36]⟩:aia).data.toList)=decide (S.data.toList.headD 0=36)):=We _ (by decide);by_cases ep:S.data.toList.headD 0=36
   ·rw[aT ep] at aj;rw[eH ep] at ho
    have BU:0<S.size:=by
     rw[←cR];cases aC:S.data.toList with
     |nil=>rw[aC] at ep;exact absurd ep (by decide)
     |cons a b=>simp
    have h4:(1:Int)≤(S.size:Int):=(by omega);have dp:S.data.toList.drop 1=(S.extract 1 S.size).data.toList:=(nd S 1).symm;have yP:J ((S.extract 1 S.size).size≤1000000000):=(by show _≤_;rw[←cR,nd,gZ,cR];have:=cF.out;omega);rw[dp] at aj;have br:=U aj;clear aj bN ch ep dp BU;go_wp2_with fail;go_fit (yp _ _ _ bL _);rintro e dJ ⟨rfl,rfl⟩;go_wp2_with fail;go_fit (yp _ _ _ ho _);rintro e dJ ⟨rfl,rfl⟩;go_wp2_with fail;go_fit (apP (S.extract 1 S.size) yP.out res br _);rintro e bt ⟨dT,hx⟩;have yR:=U (aV.out.below dT);have h0:=U aV.out.b.size;clear dT aV;have aV:=yR;clear yR;cases res with
    |error n=>
     obtain rfl:e=bb (.tuple #[kV cf.bX cc,I (n:Int)]):=hx;unfold kV yQ cf.bX;obtain⟨⟨aJ,aI,c2,c3⟩,f0,f1,f2,f3⟩:=hT aV.out.a;have aE:=U (qx aV.out cf.bX cc);go_wp2_with fail;refine dH (w:=iz bt w.heap.size cf.bX cc) (v:=.tuple #[kV cf.bX cc,I (n:Int)]) ?_ rfl ?_
     ·clear aJ aI c2 c3 f0 f1 f2 f3;generalize iz bt w.heap.size cf.bX cc=fB at aE⊢;obtain⟨⟨aJ,aI,c2,c3⟩,_⟩:=hT aE.out.1;simp[results,I7,go_sem,aJ,aI,c2,c3]<;>rfl
     ·exact⟨aE.out.2,rfl⟩
    |ok b=>
     obtain⟨q,k,rfl,vF⟩:=hx;have BV:=U (vF.mono h0.out);clear vF;unfold kV yQ;have s7:=U (I5 aV.out.a b (ad q b.args.length k));have aE:=U (qx aV.out b (ad q b.args.length k));obtain⟨⟨aJ,aI,c2,c3⟩,f0,f1,f2,f3⟩:=hT aV.out.a;go_wp2_with fail;refine dH (w:=iz bt w.heap.size b (ad q b.args.length k)) (v:=.tuple #[kV b (ad q b.args.length k),I 0]) ?_ rfl ?_
     ·clear aJ aI c2 c3 f0 f1 f2 f3 s7;generalize iz bt w.heap.size b (ad q b.args.length k)=fB at aE⊢;obtain⟨⟨aJ,aI,c2,c3⟩,_⟩:=hT aE.out.1;simp[results,I7,go_sem,aJ,aI,c2,c3]<;>rfl
     ·exact⟨aE.out.2,_,_,rfl,BV.out.keep s7.out (by decide) (by decide)⟩
   ·rw[aK ep] at aj;rw[eD ep] at ho;have br:=U aj;clear aj bN ch ep;go_wp2_with fail;go_fit (yp _ _ _ bL _);rintro e dJ ⟨rfl,rfl⟩;go_wp2_with fail;go_fit (yp _ _ _ ho _);rintro e dJ ⟨rfl,rfl⟩;go_wp2_with fail;go_fit (apY S cF.out res br _);rintro e bt ⟨dT,hx⟩;have yR:=U (aV.out.below dT);have h0:=U aV.out.b.size;clear dT aV;have aV:=yR;clear yR;cases res with
    |error n=>
     obtain rfl:e=bb (.tuple #[kV cf.bX cc,I (n:Int)]):=hx;unfold kV yQ cf.bX;obtain⟨⟨aJ,aI,c2,c3⟩,f0,f1,f2,f3⟩:=hT aV.out.a;have aE:=U (qx aV.out cf.bX cc);go_wp2_with fail;refine dH (w:=iz bt w.heap.size cf.bX cc) (v:=.tuple #[kV cf.bX cc,I (n:Int)]) ?_ rfl ?_
     ·clear aJ aI c2 c3 f0 f1 f2 f3;generalize iz bt w.heap.size cf.bX cc=fB at aE⊢;obtain⟨⟨aJ,aI,c2,c3⟩,_⟩:=hT aE.out.1;simp[results,I7,go_sem,aJ,aI,c2,c3]<;>rfl
     ·exact⟨aE.out.2,rfl⟩
    |ok b=>
     obtain⟨q,k,rfl,vF⟩:=hx;have BV:=U (vF.mono h0.out);clear vF;unfold kV yQ;have s7:=U (I5 aV.out.a b (ad q b.args.length k));have aE:=U (qx aV.out b (ad q b.args.length k));obtain⟨⟨aJ,aI,c2,c3⟩,f0,f1,f2,f3⟩:=hT aV.out.a;go_wp2_with fail;refine dH (w:=iz bt w.heap.size b (ad q b.args.length k)) (v:=.tuple #[kV b (ad q b.args.length k),I 0]) ?_ rfl ?_
     ·clear aJ aI c2 c3 f0 f1 f2 f3 s7;generalize iz bt w.heap.size b (ad q b.args.length k)=fB at aE⊢;obtain⟨⟨aJ,aI,c2,c3⟩,_⟩:=hT aE.out.1;simp[results,I7,go_sem,aJ,aI,c2,c3]<;>rfl
     ·exact⟨aE.out.2,_,_,rfl,BV.out.keep s7.out (by decide) (by decide)⟩
def ME(w:bTo)(p:aya)(l:List (List UInt8)):Prop:=0<l.length→∃b o,p=some ⟨b,o,none⟩∧b<w.heap.size∧∀i (hi:i<l.length),aw w b (o+i) (au ⟨l[i].toArray⟩)
variable{w w' W:bTo}{p q:aya}{l:List (List UInt8)}
theorem ME.below(h:ME w p l)(af:av w w w'):ME w' p l:=by intro aj;obtain⟨b,o,hp,b0,hc⟩:=h aj;exact⟨b,o,hp,jl b0 af.size,fun i hi=>(af.cell (p:=⟨b,o+i,none⟩) b0).trans (hc i hi)⟩
inductive o7(B:Nat)(w:bTo):List eI→bTv→Prop
 |nil:o7 B w [] []
 |cons {x:eI} {l:List eI} {q:aya} {k:Nat} {xs:bTv}:mH B w q x.args→o7 B w l xs→o7 B w (x::l) ((yQ x (ad q x.args.length k)).toList++xs)
theorem o7.keep{T:aui}{B:Nat}{w w':bTo}{l:List eI}{xs:bTv}(h:o7 B w l xs)(ab:kS T w w')(aa:413≠T)(ah:345≠T):o7 B w' l xs:=by
 induction h with
 |nil=>exact .nil
 |cons a _ dc=>exact .cons (a.keep ab aa ah) dc
theorem o7.append{l m:List eI}{xs eS:bTv}(h:o7 B w l xs)(g:o7 B w m eS):o7 B w (l++m) (xs++eS):=by
 induction h with
 |nil=>exact g
 |cons a _ dc=>rw[JL,List.append_assoc];exact .cons a dc
theorem o7.snoc{l:List eI}{xs:bTv}(h:o7 B w l xs)(x:eI)(k:Nat)(hx:mH B w q x.args):o7 B w (l++[x]) (xs++(yQ x (ad q x.args.length k)).toList):=by
 have ah:=h.append (.cons (k:=k) hx .nil)
 rwa [List.append_nil] at ah
theorem o7.get{l:List eI}{xs:bTv}(h:o7 B w l xs):∀(i:Nat) (hi:i<l.length),∃q c,xs[i *4]?=some (I l[i].k)∧xs[i *4+1]?=some (I l[i].n)∧xs[i *4+2]?=some (au ⟨l[i].t.toArray⟩)∧xs[i *4+3]?=some (.slice q l[i].args.length c)∧mH B w q l[i].args:=by
 induction h with
 |nil=>exact fun i hi=>absurd hi (l7 _)
 |cons a _ dc=>
  intro i hi;cases i with
  |zero=>exact⟨_,_,rfl,rfl,rfl,rfl,a⟩
  |succ i=>
   obtain⟨q,c,g0,g1,g2,g3,g4⟩:=dc i (BC hi);refine⟨q,c,?_,?_,?_,?_,g4⟩
   ·rw[show (i+1) *4=i *4+1+1+1+1 by omega];exact g0
   ·rw[show (i+1) *4+1=(i *4+1)+1+1+1+1 by omega];exact g1
   ·rw[show (i+1) *4+2=(i *4+2)+1+1+1+1 by omega];exact g2
   ·rw[show (i+1) *4+3=(i *4+3)+1+1+1+1 by omega];exact g3
variable{v:ada}
theorem ap6{l:List eI}{xs:bTv}(h:w.ownsRow B 259 4 v l.length xs)(ha:o7 B w l xs):∃p c,v=ad p l.length c∧hB B w p l:=by
 rcases h.2 with ⟨aa,ah⟩|⟨g,c,cur,aa,ah,ax,bg,b7,c0,ea⟩
 ·exact⟨none,0,by rw[aa,ah],fun aj=>absurd aj (by omega)⟩
 ·refine⟨_,c,aa,fun aj=>⟨g,0,cur,rfl,ah,ax,fun i hi=>?_⟩⟩;obtain⟨q,k,g0,g1,g2,g3,g4⟩:=ha.get i hi;have key:∀j,j<l.length *4→cur[j]?=xs[j]?:=(fun j cB=>by rw[←ea,I1 cB,zJ]);refine⟨q,k,?_,?_,?_,?_,g4⟩
  ·rw[lk,key _ (by omega)];exact g0
  ·rw[lk,key _ (by omega)];exact g1
  ·rw[lk,key _ (by omega)];exact g2
  ·rw[lk,key _ (by omega)];exact g3
def ap7(bs:List eI)(i e:Nat)(w:bTo)(lf:Ending)(w':bTo):Prop:=Below w.heap.size w w'∧∃q k,lf=bb (.tuple #[ad q bs.length k,I (i:Int),I (e:Int)])∧hB w.heap.size w' q bs
def Wg:Except (Nat×Nat) (List eI)→List eI×Nat×Nat
 |.error (i,e)=>([],i,e)
 |.ok b=>(b,0,0)
theorem ap8(l:List (List UInt8))(h:¬500<l.length):Cw l=Wg (AR l 0 []):=by unfold Cw;rw[aK h];cases AR l 0 []<;>rfl
def adM(k:Nat)(r:List (List UInt8))(acc:List eI):Except Nat eI→Except (Nat×Nat) (List eI)
 |.error e=>.error (k,e)
 |.ok b=>AR r (k+1) (acc++[b])
theorem ap9(h:k<l.length)(acc:List eI):AR (l.drop k) k acc=adM k (l.drop (k+1)) acc (AQ l[k]):=by rw[l3 h];show (match AQ l[k] with|.error e=>_|.ok b=>_)=_;cases AQ l[k]<;>rfl
theorem aqa:(Tryz.prog.info? 259).map (fun i=>(i.zero,i.size,i.bytes))=some (some (.agg #[I 0,I 0,au ⟨#[]⟩,ay 0]),4,56):=by kernel_rfl
theorem aqb{X bE:bTo}{v':ada}{acc:List eI}{xs:bTv}{x:eI}(hx:W.ownsRow w.heap.size 259 4 v acc.length xs)(ha:o7 w.heap.size W acc xs)(vF:mH w.heap.size W q x.args)(bJ:av w w W)(dp:av W W X)(aX:X.grownBy bE v.ownBlock)(bl:bE.ownsRow w.heap.size 259 4 v' (acc.length+1) (xs++(yQ x (ad q x.args.length k)).toList)):
  (∃eS,bE.ownsRow w.heap.size 259 4 v' (acc++[x]).length eS∧o7 w.heap.size bE (acc++[x]) eS)∧av w w bE:=by
 have mm:=fE hx dp;have hK:kS 259 W bE:=(kS.dM dp).trans (.grown mm aX);refine⟨⟨_,?_,(ha.keep hK (by decide) (by decide)).snoc x k (vF.keep hK (by decide) (by decide))⟩,?_⟩
 ·rw[show (acc++[x]).length=acc.length+1 by simp];exact bl
 ·have eb:=bJ.trans (dp.mono bJ.size);exact eb.grown aX eb.size (fun k ab=>(mm.lt _ ab).1)
theorem adN(p:aya)(cap:Nat)(l:List (List UInt8))(w:bTo)(pO:J (ME w p l))(hn:l.length≤1000000)(hs:J (∀s∈l,s.length≤1000000000))(bs:List eI)(i e:Nat)(h:J (Cw l=(bs,i,e))):
  Calls Tryz.prog 92 #[ad p l.length cap] w (ap7 bs i e w):=by
 by_cases b7:500<l.length
 ·have aj:=h.out;unfold Cw at aj;rw[aT b7] at aj;simp only[gA] at aj;obtain⟨rfl,rfl,rfl⟩:=aj;have aqc:(500:Int)<(l.length:Int):=(by omega);clear h;go_enter Tryz.func92,Tryz.ntmps92;go_wp2_with fail;go_ret3;exact⟨Below.refl _ _,none,0,rfl,hB.nil _ _ _⟩
 ·have aqc:¬(500:Int)<(l.length:Int):=(by omega);have aj:=h.out;rw[ap8 l b7] at aj;have dR:=U aj;clear aj h;go_enter Tryz.func92,Tryz.ntmps92;go_wp2_with fail
  go_loopw [5,15] (fun u x wr=>∃(k:Nat) (acc:List eI),k≤l.length∧J (acc.length=k)∧x=I (k:Int)∧J (∃xs,wr.ownsRow w.heap.size 259 4 u acc.length xs∧o7 w.heap.size wr acc xs)∧J (av w w wr)∧J (Wg (AR (l.drop k) k acc)=(bs,i,e))) (fun _ x _=>l.length -(intOf x).toNat)
  case atStart=>exact⟨0,[],eC _,rfl,rfl,⟨[],Mv _ _ _ _,.nil⟩,Below.refl _ _,dR⟩
  case round=>
   obtain⟨k,acc,ab,adO,rfl,cV,aH,br⟩:=hrel;obtain⟨xs,hx,ha⟩:=cV.out;obtain⟨gW,cv,rfl,DQ⟩:=ap6 hx ha;have mF:=U hx;have b8:=U ha;have I8:=U DQ;clear hx ha DQ cV;by_cases b0:k<l.length
   ·have hr:=br.out;rw[ap9 b0] at hr;obtain⟨S,hS⟩:=kz l[k];rw[←hS] at hr;obtain⟨IL,HK⟩:=az (AQ S.data.toList);have adP:=U HK;rw[HK] at hr;have eg:=U hr;obtain⟨b,o,rfl,Gi,hc⟩:=pO.out (by omega);have C5:aw wr b (o+k) (au S):=(by rw[aH.out.cell (p:=⟨b,o+k,none⟩) Gi,hc k b0,←hS]);have aqd:J (S.size≤1000000000):=(by show _≤_;rw[←cR,hS];exact hs.out _ (j4 b0));have ib:(k:Int)<(l.length:Int):=(by omega);clear hr HK hS hc br;go_wp2_with fail;go_fit (ap5 S aqd.out IL adP _);rintro lf bt ⟨dT,uc⟩;have ek:=U (aH.out.trans (dT.mono aH.out.size));have adQ:=U (fE mF.out dT);have L3:=U (b8.out.keep (T:=0) (.dM dT) (by decide) (by decide));clear dT mF b8 I8;cases IL with
    |error n=>
     obtain rfl:lf=bb (.tuple #[kV cf.bX cc,I (n:Int)]):=uc;have l8:n≠0:=ap4 adP.out;have Lt:((n:Int) !=0)=true:=(by simp;omega);have aC:=eg.out;unfold adM Wg at aC;simp only[gA] at aC;obtain⟨rfl,rfl,rfl⟩:=aC;unfold kV yQ cf.bX;clear l8 eg;go_wp2_with fail;go_ret3;exact⟨ek.out.alloc ek.out.size _,none,0,rfl,hB.nil _ _ _⟩
    |ok x=>
     obtain⟨q,c,rfl,vF⟩:=uc;have BV:=U (vF.mono aH.out.size);unfold kV yQ;clear vF;have rA:acc.length≤1000000:=(by have:=adO.out;omega);obtain⟨i0,lg,cU,cW,dz⟩:=info_parts aqa;have bY:=U (And.intro lg (And.intro cU (And.intro cW dz)));clear lg cU cW dz;go_wp2_with (at_builtin;refine yi _ rfl _ _ _ rfl w.heap.size 259 i0 (.agg #[I 0,I 0,au ⟨#[]⟩,ay 0]) 4 56 Tryz.underlying102 bY.out.1 bY.out.2.1 bY.out.2.2.1 bY.out.2.2.2 rfl (by omega) (ad gW acc.length cv) acc.length (xs) (by rfl) ((adQ.out.alloc _).alloc _) (ag (bt.heap.size+1) 0) 1 1 [I x.k,I x.n,au ⟨x.t.toArray⟩,ad q x.args.length c] (by rfl) rfl (jW (QA bt _ _)) (by simp[Value.oneCell']) (by unfold maxLen;omega) (by omega) (by have:=ek.out.size;simp<;>omega) ?_;intro v' w' gX i' pJ;obtain⟨g',mE,rfl,_,_⟩:=gX.form (by omega);have a1:J ((∃eS,w'.ownsRow w.heap.size 259 4 (bG g' 0 (acc.length+1) mE) (acc++[x]).length eS∧o7 w.heap.size w' (acc++[x]) eS)∧av w w w'):=aqb adQ.out L3.out (k:=c) BV.out ek.out (((Below.refl _ _).alloc (bD _) _).alloc (by simp) _) i' gX;clear gX i' pJ);go_round
     case rel=>exact⟨k+1,acc++[x],by omega,(by have:=adO.out;show (acc++[x]).length=k+1;rw[gh];simp only[I2];omega),by go_num,a1.out.1,a1.out.2,eg⟩
     case measure=>simp[intOf];omega
   ·have Qw:k=l.length:=(by omega);have ib:¬(k:Int)<(l.length:Int):=(by omega);have aC:=br.out;rw[Qw,List.drop_length] at aC;have CO:(acc,0,0)=(bs,i,e):=aC;simp only[gA] at CO;obtain⟨rfl,rfl,rfl⟩:=CO;clear aC br;go_wp2_with fail;go_ret3;exact⟨aH.out,_,_,rfl,I8.out⟩
def MF(w:bTo)(p:aya)(l:List ew):Prop:=0<l.length→∃b o,p=some ⟨b,o,none⟩∧b<w.heap.size∧∀i (hi:i<l.length),aw w b (o+i *4) (I (l[i].a:Int))∧aw w b (o+i *4+1) (ai l[i].ext)∧aw w b (o+i *4+2) (ai l[i].first)∧aw w b (o+i *4+3) (au ⟨l[i].t.toArray⟩)
theorem MF.below{l:List ew}(h:MF w p l)(af:av w w w'):MF w' p l:=by intro aj;obtain⟨b,o,hp,b0,hc⟩:=h aj;refine⟨b,o,hp,jl b0 af.size,fun i hi=>?_⟩;obtain⟨aQ,aa,ah,ax⟩:=hc i hi;exact⟨(af.cell (p:=⟨b,o+i *4,none⟩) b0).trans aQ,(af.cell (p:=⟨b,o+i *4+1,none⟩) b0).trans aa,(af.cell (p:=⟨b,o+i *4+2,none⟩) b0).trans ah,(af.cell (p:=⟨b,o+i *4+3,none⟩) b0).trans ax⟩
def aqe(res:Except (Nat×Nat) (List C))(w:bTo)(lf:Ending)(w':bTo):Prop:=Below w.heap.size w w'∧match res with
 |.ok cs=>∃v,lf=bb (.tuple #[v,I 0,I 0])∧jX w.heap.size w' v (ub cs)
 |.error x=>lf=bb (.tuple #[cc,I (x.1:Int),I (x.2:Int)])
theorem Wh(x:Nat×C){k m:Nat}(bJ:B≤W.heap.size)(hn:fa B W p x.2.cj)(af:hB B W q x.2.blocks):
  jX B (W.alloc (aD (jk x.2 (x.1:Int) (ad p x.2.cj.length k) (ad q x.2.blocks.length m)) 104)) (bG W.heap.size 0 1 1) [x]:=by
 have hK:kS (0:aui) W (W.alloc (aD (jk x.2 (x.1:Int) (ad p x.2.cj.length k) (ad q x.2.blocks.length m)) 104)):=.dM ((Below.refl _ _).alloc (bD _) _);refine⟨_,⟨rfl,.inr ⟨W.heap.size,1,_,rfl,bJ,gi W _,bD _,by unfold maxLen;omega,rfl,?_⟩⟩,.cons (k:=k) (m:=m) (hn.keep hK (by decide)) (af.keep hK (by decide) (by decide) (by decide)) .nil⟩;rw[List.append_nil];rfl
def vG(l:List (List UInt8)):List Value:=l.map fun s=>au ⟨s.toArray⟩
theorem adR(h:w.ownsRow B 9 1 v l.length (vG l)):∃p c,v=ad p l.length c∧ME w p l:=by
 rcases h.2 with ⟨aa,ah⟩|⟨g,c,cur,aa,ah,ax,bg,b7,c0,ea⟩
 ·exact⟨none,0,by rw[aa,ah],fun aj=>absurd aj (by omega)⟩
 ·subst aa;refine⟨_,c,rfl,fun aj=>⟨g,0,rfl,(Array.getElem?_eq_some_iff.1 ax).1,fun i hi=>?_⟩⟩;have fG:(vG l)[i]?=some (au ⟨l[i].toArray⟩):=(by rw[vG,C1,jH hi];rfl);rw[lk,World.ownsRow.cellAt h i (by omega),fG]
theorem adS:∀{l:List (List UInt8)} {k:Nat} {acc:List eI} {i e:Nat},AR l k acc=.error (i,e)→i<k+l.length
 |[],k,acc,i,e,h=>by cases h
 |s::l,k,acc,i,e,h=>by
  unfold AR at h;split at h
  ·injection h with h;injection h with aa _;rw[fK];omega
  ·have:=adS h;rw[fK];omega
theorem ayF{b:List eI}{i e:Nat}(h:Cw l=(b,i,e))(he:e≠0):i<l.length:=by
 unfold Cw at h;split at h
 ·rename_i b7;simp only[gA] at h;omega
 ·split at h
  ·rename_i ah;have:=adS ah;simp only[gA] at h;omega
  ·simp only[gA] at h;omega
theorem aqf:(Tryz.prog.info? 9).map (fun i=>(i.zero,i.size,i.bytes))=some (some (au ⟨#[]⟩),1,16):=by kernel_rfl
theorem adU{x:bTo}{b:Nat}{v0 v1 v2 v3:ada}{t:aui}(h:bo x b (#[v0,v1,v2,v3]) t):
 aw x b 0 v0∧aw x b 1 v1∧aw x b 2 v2∧aw x b 3 v3:=(hT h).1
structure aqg(w:bTo)(b:Nat)(c:C)(p:aya)(k:Nat)(W:bTo):Prop where
 BD:W.heap[b]?=some (tV c 0 (ad p c.cj.length k) cc)
 cj:fa w.heap.size W p c.cj
 aY:av w w W
theorem adV{t:bk}(h:xN t=.error n):n≠0:=by
 unfold xN at h;split at h
 ·cases h;decide
 ·split at h
  ·cases h
  ·split at h
   ·cases h;decide
   ·cases h
theorem QJ(bJ:B≤w.heap.size)(h:H0 w w'):Below B w w':=(mn h).mono bJ
theorem aqh{l:List ew}{z:aia}(h:k<l.length)(e:(⟨l[k].t.toArray⟩:aia)=z)(bl:W.ownsRow B 9 1 v n (vG ((l.take k).map ew.t)++[au z])):W.ownsRow B 9 1 v n (vG ((l.take (k+1)).map ew.t)):=by
 have ah:vG ((l.take (k+1)).map ew.t)=vG ((l.take k).map ew.t)++[au z]:=by rw[List.take_add_one,jH h,mh,←e];simp[vG]
 rw[ah];exact bl
theorem aqi{X bE:bTo}{xs:bTv}{fS:Nat}{iw:agv}(hx:W.ownsRow w.heap.size 9 1 v n xs)(bJ:av w w W)(hw:bo W fS iw 153)(dp:av W W X)(aX:X.grownBy bE v.ownBlock):
  av w w bE∧bo bE fS iw 153:=by
 have mm:=fE hx dp;have eb:=bJ.trans (dp.mono bJ.size);have qd:=aO hw dp;exact⟨eb.grown aX eb.size (fun k ab=>(mm.lt _ ab).1),(aX.block _ (Array.getElem?_eq_some_iff.1 qd).1 (fN (oR mm qd (by decide)))).trans qd⟩
theorem aqj(p:aya)(cap:Nat)(x:ew)(l:List ew)(w:bTo)(pO:J (MF w p (x::l)))(hn:l.length≤999999)(K2:l.length+1≤cap)(F3:cap≤maxLen)(hs:J (∀y∈x::l,y.t.length≤1000000000))(res:Except (Nat×Nat) (List C))(hr:J (zt x l=res)):
  Calls Tryz.prog 62 #[ad p (l.length+1) cap] w (aqe res w):=by
 obtain⟨b,o,rfl,b0,hc⟩:=pO.out (EU _);have aQ:=hc 0 (EU _);rw[show o+0 *4=o by omega] at aQ;obtain⟨ao,ar,gY,mL⟩:=aQ;simp only[IV] at ao ar gY mL;obtain⟨T,fh⟩:=kz x.t;have vH:(⟨x.t.toArray⟩:aia)=T:=ml fh.symm;rw[vH] at mL;have sC:J (T.size≤1000000000):=by show _≤_;rw[←cR,fh];exact hs.out x (by simp)
 have bq:J (b<w.heap.size∧∀i (hi:i<(x::l).length),aw w b (o+i *4) (I ((x::l)[i].a:Int))∧aw w b (o+i *4+1) (ai (x::l)[i].ext)∧aw w b (o+i *4+2) (ai (x::l)[i].first)∧aw w b (o+i *4+3) (au ⟨(x::l)[i].t.toArray⟩)):=⟨b0,hc⟩;have aj:=hr.out;unfold zt at aj;rw[←fh] at aj;obtain⟨pR,BW⟩:∃a:Int,(x.a:Int)=a:=⟨_,rfl⟩;rw[BW] at ao;have Gj:=U BW;have axg:(0:Int)≤(l.length:Int):=by omega
 clear b0 hc hr fh vH BW;have dC:J ((w.alloc (aD (#[I pR,ai x.ext,ai x.first,au T]) 153)).heap[w.heap.size]?=some (.cells #[I pR,ai x.ext,ai x.first,au T] 153)∧av w w (w.alloc (aD (#[I pR,ai x.ext,ai x.first,au T]) 153))):=⟨gi w _,(Below.refl _ _).alloc (bD _) _⟩;go_enter Tryz.func62,Tryz.ntmps62;go_upto_region 2 with fail;clear ao ar gY mL;generalize w.alloc (.cells #[I pR,ai x.ext,ai x.first,au T] 153)=bQ at dC⊢;obtain⟨ak,aq,e1,y3⟩:=adU dC.out.1;by_cases I9:T.data.toList.take 2=[65,77]
 ·rw[aK (fun h=>h I9)] at aj;obtain⟨R,hR⟩:=kz (T.data.toList.drop 2);have bL:J (T.data.toList=(⟨#[65,77]⟩:aia).data.toList++R.data.toList):=(by show _=_;rw[hR];exact Uv (p:=[65,77]) I9);have qP:J (R.size≤maxLen):=(by show _≤_;have aa:=gb List.length hR;rw[cR,gZ,cR] at aa;have:=sC.out;unfold maxLen;omega);rw[←hR] at aj;obtain⟨xc,Ar⟩:=az (tv R.data.toList);have nH:=U Ar;rw[Ar] at aj;clear hR Ar I9;go_wp2_with fail;go_fit (qn _ _ _ bL _);rintro e cr ⟨rfl,rfl⟩;rw[qm];go_wp2_with fail;go_fit (abg R qP.out xc nH _);rintro e cr ⟨rfl,rfl⟩;cases xc with
  |false=>
   rw[aT rfl] at aj;have a7:J (Except.error (x.a,3)=res):=aj;clear aj;go_upto_region 11 with fail
   go_quiet (fail)
   go_wp2_with fail;go_ret3;rw[←a7.out];exact⟨dC.out.2.trans (QJ dC.out.2.size ⟨_,rfl⟩),by rw[←Gj.out];rfl⟩
  |true=>
   rw[aK (by decide)] at aj;obtain⟨⟨bs,i,e⟩,af⟩:=az (Cw (l.map ew.t));have vj:=U af;rw[af] at aj;simp only[] at aj;have pv:=U aj;clear af aj;have axh:(l.length:Int)+1≤(cap:Int):=(by omega);obtain Bm|Bm:cap=1∨1<cap:=by omega
   ·skip
    go_wp2_with fail;clear ak aq e1 y3
    go_loopw [10,55] (fun u Gk wr=>∃(k:Nat),k≤l.length∧Gk=I (k:Int)∧J (wr.ownsRow w.heap.size 9 1 u k (vG ((l.take k).map ew.t)))∧J (av w w wr)∧J (bo wr w.heap.size (#[I pR,ai x.ext,ai x.first,au T]) 153)) (fun _ Gk _=>l.length -(intOf Gk).toNat)
    case atStart=>exact⟨0,eC _,rfl,Mv _ _ _ _,dC.out.2,dC.out.1⟩
    case round=>
     obtain⟨k,ab,rfl,cV,aH,zC⟩:=hrel;obtain⟨gW,cv,rfl⟩:=ik cV.out;by_cases b0:k<l.length
     ·exfalso;omega
     ·obtain rfl:k=l.length:=(by omega);have wX:wr.ownsRow w.heap.size 9 1 (ad gW l.length cv) (l.map ew.t).length (vG (l.map ew.t)):=(by have h:=cV.out;rw[uo] at h;rw[hk];exact h);obtain⟨lO,bj,BX,Fe⟩:=adR wX;rw[hk] at BX;injection BX with aN _ cA;subst aN;subst cA;have MG:=U Fe;have pL:=adN gW cv (l.map ew.t) wr MG (by rw[hk];omega) (U (by intro s mg;obtain⟨y,hy,rfl⟩:=List.mem_map.1 mg;exact hs.out y (BT _ hy))) bs i e vj;rw[hk] at pL;have DR:=U pL;clear wX Fe pL;go_wp2_with fail;with_reducible refine DR.out.mono ?_
      rintro lf bt ⟨dT,q,hY,rfl,DQ⟩;have ek:=U (aH.out.trans (dT.mono aH.out.size));have I8:=U (DQ.mono aH.out.size);have CR:=U (aO zC.out dT);clear dT DQ cV MG DR;by_cases he:e=0
      ·subst he;have a7:J (Except.ok [{b2 19 with t:=R.data.toList,blocks:=bs}]=res):=(by have h:=pv.out;rw[aK (fun h=>h rfl)] at h;exact h);have DS:=U (Wh (W:=bt) (0,{b2 19 with t:=R.data.toList,blocks:=bs}) (p:=none) (q:=q) (k:=0) (m:=hY) ek.out.size (fa.nil _ _ _) I8.out);clear pv;go_wp2_with fail;go_ret3;rw[←a7.out];exact⟨ek.out.alloc ek.out.size _,_,rfl,DS.out⟩
      ·have MC:((e:Int) !=0)=true:=by simp;omega
       have adW:i<l.length:=by
        have h:=ayF vj.out he
        rwa [hk] at h
       exfalso;omega
   ·have axi:(1:Int)<(cap:Int):=(by omega);go_wp2_with fail;clear ak aq e1 y3
    go_loopw [10,55] (fun u Gk wr=>∃(k:Nat),k≤l.length∧Gk=I (k:Int)∧J (wr.ownsRow w.heap.size 9 1 u k (vG ((l.take k).map ew.t)))∧J (av w w wr)∧J (bo wr w.heap.size (#[I pR,ai x.ext,ai x.first,au T]) 153)) (fun _ Gk _=>l.length -(intOf Gk).toNat)
    case atStart=>exact⟨0,eC _,rfl,Mv _ _ _ _,dC.out.2,dC.out.1⟩
    case round=>
     obtain⟨k,ab,rfl,cV,aH,zC⟩:=hrel;obtain⟨gW,cv,rfl⟩:=ik cV.out;by_cases b0:k<l.length
     ·have ib:(k:Int)<(l.length:Int):=(by omega);obtain⟨z0,z1,z2,z3⟩:=bq.out.2 (k+1) (by rw[fK];omega);rw[←aH.out.cell (p:=⟨b,o+(k+1) *4,none⟩) bq.out.1,show o+(k+1) *4=o+4+k *4 by omega] at z0;rw[←aH.out.cell (p:=⟨b,o+(k+1) *4+1,none⟩) bq.out.1,show o+(k+1) *4=o+4+k *4 by omega] at z1;rw[←aH.out.cell (p:=⟨b,o+(k+1) *4+2,none⟩) bq.out.1,show o+(k+1) *4=o+4+k *4 by omega] at z2;rw[←aH.out.cell (p:=⟨b,o+(k+1) *4+3,none⟩) bq.out.1,show o+(k+1) *4=o+4+k *4 by omega] at z3;simp only[Gd] at z0 z1 z2 z3;obtain⟨adX,As⟩:∃a:Int,(l[k].a:Int)=a:=⟨_,rfl⟩;obtain⟨axj,A8⟩:=az (l[k].ext);obtain⟨axk,adY⟩:=az (l[k].first);obtain⟨aqk,Wi⟩:∃a:aia,(⟨l[k].t.toArray⟩:aia)=a:=⟨_,rfl⟩;rw[As] at z0;rw[A8] at z1;rw[adY] at z2;rw[Wi] at z3;have aql:=U Wi;clear As A8 adY Wi;obtain⟨i0,lg,cU,cW,dz⟩:=info_parts aqf;have bY:=U (And.intro lg (And.intro cU (And.intro cW dz)));clear lg cU cW dz;go_wp2_with (at_builtin;refine yi _ rfl _ _ _ rfl w.heap.size 9 i0 (au ⟨#[]⟩) 1 16 Tryz.underlying29 bY.out.1 bY.out.2.1 bY.out.2.2.1 bY.out.2.2.2 rfl (by omega) (ad gW k cv) k (vG ((l.take k).map ew.t)) (by rfl) ((cV.out.alloc _).alloc _) (ag (wr.heap.size+1) 0) 1 1 [au aqk] (by rfl) rfl (jW (QA wr _ _)) (by simp[Value.oneCell']) (by unfold maxLen;omega) (by omega) (by have:=aH.out.size;simp<;>omega) ?_;intro v' w' gX i' pJ;obtain⟨g',mE,rfl,_,_⟩:=gX.form (by omega);have l':=U (aqh b0 aql.out gX);have mM:=U (aqi cV.out aH.out zC.out (((Below.refl _ _).alloc (bD _) _).alloc (by simp) _) i');clear gX i' pJ);clear z0 z1 z2 z3;go_round
      case rel=>exact⟨k+1,by omega,by go_num,l',mM.out.1,mM.out.2⟩
      case measure=>simp[intOf];omega
     ·obtain rfl:k=l.length:=(by omega);have wX:wr.ownsRow w.heap.size 9 1 (ad gW l.length cv) (l.map ew.t).length (vG (l.map ew.t)):=(by have h:=cV.out;rw[uo] at h;rw[hk];exact h);obtain⟨lO,bj,BX,Fe⟩:=adR wX;rw[hk] at BX;injection BX with aN _ cA;subst aN;subst cA;have MG:=U Fe;have pL:=adN gW cv (l.map ew.t) wr MG (by rw[hk];omega) (U (by intro s mg;obtain⟨y,hy,rfl⟩:=List.mem_map.1 mg;exact hs.out y (BT _ hy))) bs i e vj;rw[hk] at pL;have DR:=U pL;clear wX Fe pL;go_wp2_with fail;with_reducible refine DR.out.mono ?_
      rintro lf bt ⟨dT,q,hY,rfl,DQ⟩;have ek:=U (aH.out.trans (dT.mono aH.out.size));have I8:=U (DQ.mono aH.out.size);have CR:=U (aO zC.out dT);clear dT DQ cV MG DR;by_cases he:e=0
      ·subst he;have a7:J (Except.ok [{b2 19 with t:=R.data.toList,blocks:=bs}]=res):=(by have h:=pv.out;rw[aK (fun h=>h rfl)] at h;exact h);have DS:=U (Wh (W:=bt) (0,{b2 19 with t:=R.data.toList,blocks:=bs}) (p:=none) (q:=q) (k:=0) (m:=hY) ek.out.size (fa.nil _ _ _) I8.out);clear pv;go_wp2_with fail;go_ret3;rw[←a7.out];exact⟨ek.out.alloc ek.out.size _,_,rfl,DS.out⟩
      ·have MC:((e:Int) !=0)=true:=by simp;omega
       have adW:i<l.length:=by
        have h:=ayF vj.out he
        rwa [hk] at h
       have a7:J (Except.error (l[i].a,e)=res):=(by have h:=pv.out;rw[aT he,C1,jH adW] at h;exact h);have z0:=(bq.out.2 (i+1) (by rw[fK];omega)).1;rw[←ek.out.cell (p:=⟨b,o+(i+1) *4,none⟩) bq.out.1] at z0;simp only[Gd] at z0;obtain⟨adX,As⟩:∃a:Int,(l[i].a:Int)=a:=⟨_,rfl⟩;rw[As] at z0;have yN:=U As;have KD:(1:Int)+(i:Int)=((i+1:Nat):Int):=(by omega);have sq:(i:Int)<(l.length:Int):=(by omega);have acd:((i+1:Nat):Int)<(l.length:Int)+1:=(by omega);clear pv he As;go_upto_region 20 with fail
       go_quiet (fail)
       go_wp2_with fail;go_ret3;rw[←a7.out];exact⟨ek.out.trans (QJ ek.out.size ⟨_,rfl⟩),by rw[←yN.out];rfl⟩
 ·rw[aT I9] at aj;have bL:J (∀r,T.data.toList≠(⟨#[65,77]⟩:aia).data.toList++r):=Uw (p:=[65,77]) I9;obtain⟨ie,h4⟩:=az (xN T.data.toList);have BG:=U h4;rw[h4] at aj;clear h4 I9;go_wp2_with fail;go_fit (Dk _ _ bL _);rintro e cr ⟨rfl,rfl⟩;go_wp2_with fail;go_fit (apC T sC.out ie BG _);rintro e cr ⟨eb,hx⟩;have c1:=U (dC.out.2.trans (eb.mono dC.out.2.size));have MH:=U (aO dC.out.1 eb);have rE:=U dC.out.2.size;clear eb ak aq e1 y3 dC;cases ie with
  |error n=>
   obtain rfl:e=bb (.tuple #[kd cf.aJ 0 cc cc,I (n:Int)]):=hx;have l8:n≠0:=adV BG.out;have Lt:((n:Int) !=0)=true:=(by simp;omega);have a7:J (Except.error (x.a,n)=res):=aj;have dx:J (∀xX,av w w (cr.alloc xX)∧(cr.alloc xX).heap[w.heap.size]?=some (.cells #[I pR,ai x.ext,ai x.first,au T] 153)):=fun xX=>⟨c1.out.alloc c1.out.size _,aO MH.out ((Below.refl _ _).alloc (bD _) _)⟩;unfold kd jk;clear l8 aj;go_upto_region 5 with fail;generalize I':cr.alloc _=c6;have fq:J (av w w c6∧bo c6 w.heap.size (#[I pR,ai x.ext,ai x.first,au T]) 153):=(by rw[←I'];exact dx.out _);clear I' dx;obtain⟨ak,aq,e1,y3⟩:=adU fq.out.2;go_upto_region 6 with fail
   go_quiet (fail)
   go_wp2_with fail;go_ret3;rw[←a7.out];exact⟨fq.out.1.trans (QJ fq.out.1.size ⟨_,rfl⟩),by rw[←Gj.out];rfl⟩
  |ok c=>
   obtain⟨ee,a8,rfl,ic,sU⟩:=hx;have sT:=U (ic.mono rE.out);have n1:=U sU;have bm:J (aqg w cr.heap.size c ee a8 (cr.alloc (tV c 0 (ad ee c.cj.length a8) cc))):=⟨gi cr _,sT.out.below ((Below.refl _ _).alloc (bD _) _),c1.out.alloc c1.out.size _⟩;unfold kd jk;unfold tV jk at bm;generalize pL:cr.heap.size=ei at bm;clear ic sU;go_upto_region 5 with fail;generalize cr.alloc _=c6 at bm⊢;clear pL MH c1 sT rE;by_cases aQ:l.length=0
   ·have JV:l=[]:=qz aQ;have a7:J (Except.ok [c]=res):=(by show _=_;rw[JV] at aj;exact aj);have adZ:¬(1:Int)<(l.length:Int)+1:=(by omega);have DS:J (jX w.heap.size (c6.alloc (aD (#[I 0,I c.k,I c.n,I c.m,ai c.on,au ⟨c.t.toArray⟩,au ⟨c.x.toArray⟩,au ⟨c.y.toArray⟩,au ⟨c.i.toArray⟩,au ⟨c.j.toArray⟩,ad ee c.cj.length a8,cc]) 104)) (bG c6.heap.size 0 1 1) [(0,c)]):=(by have h:=Wh (W:=c6) (0,c) (p:=ee) (q:=none) (k:=a8) (m:=0) bm.out.aY.size bm.out.cj (by rw[n1.out];exact hB.nil _ _ _);rw[n1.out] at h;exact h);obtain⟨⟨aJ,aI,c2,c3,bF,c5,b1,b5,bS,bf,cy,dq⟩,_⟩:=dD bm.out.BD;clear aj aQ JV;go_wp2_with fail;go_ret3;rw[←a7.out];exact⟨bm.out.aY.alloc bm.out.aY.size _,_,rfl,DS.out⟩
   ·obtain⟨gY,gV,kb⟩:∃gY gV,l=gY::gV:=by
     cases l with
     |nil=>exact absurd rfl aQ
     |cons a b=>exact⟨a,b,rfl⟩
    have a7:J (Except.error (gY.a,3)=res):=(by show _=_;rw[kb] at aj;exact aj);have adZ:(1:Int)<(l.length:Int)+1:=(by omega);have z0:=(bq.out.2 1 (by rw[fK];omega)).1;rw[←bm.out.aY.cell (p:=⟨b,o+1 *4,none⟩) bq.out.1,show o+1 *4=o+4 by omega] at z0;simp only[kb,Gd,IV] at z0;obtain⟨adX,As⟩:∃a:Int,(gY.a:Int)=a:=⟨_,rfl⟩;rw[As] at z0;have yN:=U As;clear As aj kb aQ;go_upto_region 8 with fail
    go_quiet (fail)
    go_wp2_with fail;go_ret3;rw[←a7.out];exact⟨bm.out.aY.trans (QJ bm.out.aY.size ⟨_,rfl⟩),by rw[←yN.out];rfl⟩
end jj
