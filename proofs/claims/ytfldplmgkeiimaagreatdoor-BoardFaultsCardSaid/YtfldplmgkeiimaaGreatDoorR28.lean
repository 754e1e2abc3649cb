/- Lemmas. -/
import Derived.Test.YtfldplmgkeiimaaGreatDoorR27
set_option linter.all false
set_option maxRecDepth 100000
set_option maxHeartbeats 25600000
namespace Go.Proofs.YtfldplmgkeiimaaGreatDoor
abbrev He:=@Proofs.Tryz.results137
abbrev Ug:=@Proofs.Tryz.underlying29
namespace iS
open Go.RowKit kR ig n1 Mem pN ct
theorem am2(S:Ua)(hs:S.size≤1000000000)(w:aeo):
  Calls Tryz.prog 179 #[aa S] w fun e w'=>e=ab (aa S)∧ao w w w':=by
 have abc:S.size≤281474976710656:=by omega
 have dn:=aq abc;clear hs abc;go_enter Tryz.func179,Tryz.ntmps179;go_wp2_with fail;with_reducible refine (Tryz.stringslite_Clone S _ dn.out).mono ?_
 rintro e b9 ⟨rfl,ax⟩;have aI:=aq ax;clear ax;go_wp2_with fail;go_ret;exact⟨rfl,aI.out⟩
variable{s:au}{n B k:Nat}
theorem am3(h:IH s=.error n):n≠0:=by
 unfold IH at h;split at h
 ·cases h;decide
 ·split at h
  ·cases h;decide
  ·split at h;split at h
   ·rename_i aS;cases h;exact aS
   ·cases h
theorem abd:∀{f:Nat} {s:au} {acc:List (List (Int×Int))} {n:Nat},ys f s acc=.error n→n≠0
 |0,s,acc,n,h=>by cases h
 |f+1,s,acc,n,h=>by
  rw[abb] at h;split at h
  ·cases h;decide
  ·split at h;split at h
   ·rename_i aS;cases h;exact aS
   ·split at h
    ·exact abd h
    ·cases h
theorem am4(h:va s=.error n):n≠0:=by
 unfold va at h;split at h
 ·cases h;decide
 ·split at h
  ·cases h;decide
  ·split at h
   ·cases h;decide
   ·split at h
    ·rename_i az;cases h;exact abd az
    ·split at h<;>cases h;decide
theorem am5(h:zy s=.error n):n≠0:=by
 unfold zy at h;split at h
 ·cases h
 ·split at h
  ·cases h
  ·split at h
   ·exact am3 h
   ·exact am4 h
theorem am6(S:Ua)(hs:S.size≤1000000000)(res:Except Nat eC)(hr:af (zy S.data.toList=res))(w:aeo):
  Calls Tryz.prog 137 #[aa S] w (Uc res w):=by
 have db:=aq hs;have aA:=hr.out;unfold zy at aA;clear hr hs;have aV:af (vW w (w.alloc (ai (#[I 0,I 0,aa ⟨#[]⟩,J 0]) 259))):=Ub w;go_enter Tryz.func137,Tryz.ntmps137;go_upto_region 1 with fail;generalize w.alloc (.cells #[I 0,I 0,aa ⟨#[]⟩,J 0] 259)=W at aV⊢;by_cases b1:S.data.toList=[48]
 ·rw[bb b1] at aA;have a':af (Except.ok {ct.cu with k:=1}=res):=aA;have a7:(S.toList==[48])=true:=(by rw[eG];exact eL b1);clear aA b1;have r6:=aq (Hc aV.out.a ({ct.cu with k:=1}:eC) (J 0));have aO:=aq (pJ aV.out ({ct.cu with k:=1}:eC) (J 0));obtain⟨⟨aQ,aN,aJ,c3⟩,f0,f1,f2,f3⟩:=hb aV.out.a;go_wp2_with fail;refine dU (w:=hW W w.heap.size ({ct.cu with k:=1}:eC) (J 0)) (v:=.tuple #[kA ({ct.cu with k:=1}:eC) (J 0),I 0]) ?_ rfl ?_
  ·clear aQ aN aJ c3 f0 f1 f2 f3 r6;generalize hW W w.heap.size ({ct.cu with k:=1}:eC) (J 0)=e5 at aO⊢;obtain⟨⟨aQ,aN,aJ,c3⟩,_⟩:=hb aO.out.1;simp[results,He,go_sem,aQ,aN,aJ,c3]<;>rfl
  ·rw[←a'.out];exact⟨aO.out.2,_,_,rfl,mi.nil _ _ _⟩
 ·rw[aW b1] at aA;have a7:(S.toList==[48])=false:=(by rw[eG];exact ey b1);by_cases cw:S.data.toList.take 2=[48,32]
  ·rw[bb cw] at aA;have bT:af (decide (S.data.toList.take (⟨#[48,32]⟩:Ua).data.toList.length=(⟨#[48,32]⟩:Ua).data.toList)=true):=eL cw;have az:(2:Int)≤(S.size:Int):=(by have av:=fp List.length cw;rw[kU,cb] at av;simp at av;omega);have c7:S.data.toList.drop 2=(S.extract 2 S.size).data.toList:=(jP S 2).symm;have tx:af ((S.extract 2 S.size).size≤1000000000):=(by show _≤_;rw[←cb,jP,fH,cb];have:=db.out;omega);rw[c7] at aA;have a':af (Except.ok {ct.cu with k:=1,t:=(S.extract 2 S.size).data.toList}=res):=aA;clear aA b1 cw c7;go_wp2_with fail;with_reducible refine (xq _ _ _ bT _).mono ?_
   rintro e dP ⟨rfl,rfl⟩;go_wp2_with fail;with_reducible refine (am2 (S.extract 2 S.size) tx.out _).mono ?_
   rintro e bI ⟨rfl,dY⟩;have xP:=aq (aV.out.below dY);clear dY aV;have aV:=xP;clear xP;have r6:=aq (Hc aV.out.a ({ct.cu with k:=1,t:=(S.extract 2 S.size).data.toList}:eC) (J 0));have aO:=aq (pJ aV.out ({ct.cu with k:=1,t:=(S.extract 2 S.size).data.toList}:eC) (J 0));obtain⟨⟨aQ,aN,aJ,c3⟩,f0,f1,f2,f3⟩:=hb aV.out.a;go_wp2_with fail;refine dU (w:=hW bI w.heap.size ({ct.cu with k:=1,t:=(S.extract 2 S.size).data.toList}:eC) (J 0)) (v:=.tuple #[kA ({ct.cu with k:=1,t:=(S.extract 2 S.size).data.toList}:eC) (J 0),I 0]) ?_ rfl ?_
   ·clear aQ aN aJ c3 f0 f1 f2 f3 r6;generalize hW bI w.heap.size ({ct.cu with k:=1,t:=(S.extract 2 S.size).data.toList}:eC) (J 0)=e5 at aO⊢;obtain⟨⟨aQ,aN,aJ,c3⟩,_⟩:=hb aO.out.1;simp[results,He,go_sem,aQ,aN,aJ,c3]<;>rfl
   ·rw[←a'.out];exact⟨aO.out.2,_,_,rfl,mi.nil _ _ _⟩
  ·rw[aW cw] at aA;have bT:af (decide (S.data.toList.take (⟨#[48,32]⟩:Ua).data.toList.length=(⟨#[48,32]⟩:Ua).data.toList)=false):=ey cw;have hz:af (decide (S.data.toList.take (⟨#[36]⟩:Ua).data.toList.length=(⟨#[36]⟩:Ua).data.toList)=decide (S.data.toList.headD 0=36)):=Ud _ (by decide);by_cases ei:S.data.toList.headD 0=36
   ·rw[bb ei] at aA;rw[eL ei] at hz
    have At:0<S.size:=by
     rw[←cb];cases aR:S.data.toList with
     |nil=>rw[aR] at ei;exact absurd ei (by decide)
     |cons a b=>simp
    have i7:(1:Int)≤(S.size:Int):=(by omega);have c7:S.data.toList.drop 1=(S.extract 1 S.size).data.toList:=(jP S 1).symm;have tx:af ((S.extract 1 S.size).size≤1000000000):=(by show _≤_;rw[←cb,jP,fH,cb];have:=db.out;omega);rw[c7] at aA;have bw:=aq aA;clear aA b1 cw ei c7 At;go_wp2_with fail;with_reducible refine (xq _ _ _ bT _).mono ?_
    rintro e dP ⟨rfl,rfl⟩;go_wp2_with fail;with_reducible refine (xq _ _ _ hz _).mono ?_
    rintro e dP ⟨rfl,rfl⟩;go_wp2_with fail;with_reducible refine (amQ (S.extract 1 S.size) tx.out res bw _).mono ?_
    rintro e bI ⟨dY,hx⟩;have xP:=aq (aV.out.below dY);have il:=aq aV.out.b.size;clear dY aV;have aV:=xP;clear xP;cases res with
    |error n=>
     obtain rfl:e=ab (.tuple #[kA ct.cu bN,I (n:Int)]):=hx;unfold kA xO ct.cu;obtain⟨⟨aQ,aN,aJ,c3⟩,f0,f1,f2,f3⟩:=hb aV.out.a;have aO:=aq (pJ aV.out ct.cu bN);go_wp2_with fail;refine dU (w:=hW bI w.heap.size ct.cu bN) (v:=.tuple #[kA ct.cu bN,I (n:Int)]) ?_ rfl ?_
     ·clear aQ aN aJ c3 f0 f1 f2 f3;generalize hW bI w.heap.size ct.cu bN=e5 at aO⊢;obtain⟨⟨aQ,aN,aJ,c3⟩,_⟩:=hb aO.out.1;simp[results,He,go_sem,aQ,aN,aJ,c3]<;>rfl
     ·exact⟨aO.out.2,rfl⟩
    |ok b=>
     obtain⟨q,k,rfl,ur⟩:=hx;have Au:=aq (ur.mono il.out);clear ur;unfold kA xO;have r6:=aq (Hc aV.out.a b (ad q b.args.length k));have aO:=aq (pJ aV.out b (ad q b.args.length k));obtain⟨⟨aQ,aN,aJ,c3⟩,f0,f1,f2,f3⟩:=hb aV.out.a;go_wp2_with fail;refine dU (w:=hW bI w.heap.size b (ad q b.args.length k)) (v:=.tuple #[kA b (ad q b.args.length k),I 0]) ?_ rfl ?_
     ·clear aQ aN aJ c3 f0 f1 f2 f3 r6;generalize hW bI w.heap.size b (ad q b.args.length k)=e5 at aO⊢;obtain⟨⟨aQ,aN,aJ,c3⟩,_⟩:=hb aO.out.1;simp[results,He,go_sem,aQ,aN,aJ,c3]<;>rfl
     ·exact⟨aO.out.2,_,_,rfl,Au.out.keep r6.out (by decide) (by decide)⟩
   ·rw[aW ei] at aA;rw[ey ei] at hz;have bw:=aq aA;clear aA b1 cw ei;go_wp2_with fail;with_reducible refine (xq _ _ _ bT _).mono ?_
    rintro e dP ⟨rfl,rfl⟩;go_wp2_with fail;with_reducible refine (xq _ _ _ hz _).mono ?_
    rintro e dP ⟨rfl,rfl⟩;go_wp2_with fail;with_reducible refine (amZ S db.out res bw _).mono ?_
    rintro e bI ⟨dY,hx⟩;have xP:=aq (aV.out.below dY);have il:=aq aV.out.b.size;clear dY aV;have aV:=xP;clear xP;cases res with
    |error n=>
     obtain rfl:e=ab (.tuple #[kA ct.cu bN,I (n:Int)]):=hx;unfold kA xO ct.cu;obtain⟨⟨aQ,aN,aJ,c3⟩,f0,f1,f2,f3⟩:=hb aV.out.a;have aO:=aq (pJ aV.out ct.cu bN);go_wp2_with fail;refine dU (w:=hW bI w.heap.size ct.cu bN) (v:=.tuple #[kA ct.cu bN,I (n:Int)]) ?_ rfl ?_
     ·clear aQ aN aJ c3 f0 f1 f2 f3;generalize hW bI w.heap.size ct.cu bN=e5 at aO⊢;obtain⟨⟨aQ,aN,aJ,c3⟩,_⟩:=hb aO.out.1;simp[results,He,go_sem,aQ,aN,aJ,c3]<;>rfl
     ·exact⟨aO.out.2,rfl⟩
    |ok b=>
     obtain⟨q,k,rfl,ur⟩:=hx;have Au:=aq (ur.mono il.out);clear ur;unfold kA xO;have r6:=aq (Hc aV.out.a b (ad q b.args.length k));have aO:=aq (pJ aV.out b (ad q b.args.length k));obtain⟨⟨aQ,aN,aJ,c3⟩,f0,f1,f2,f3⟩:=hb aV.out.a;go_wp2_with fail;refine dU (w:=hW bI w.heap.size b (ad q b.args.length k)) (v:=.tuple #[kA b (ad q b.args.length k),I 0]) ?_ rfl ?_
     ·clear aQ aN aJ c3 f0 f1 f2 f3 r6;generalize hW bI w.heap.size b (ad q b.args.length k)=e5 at aO⊢;obtain⟨⟨aQ,aN,aJ,c3⟩,_⟩:=hb aO.out.1;simp[results,He,go_sem,aQ,aN,aJ,c3]<;>rfl
     ·exact⟨aO.out.2,_,_,rfl,Au.out.keep r6.out (by decide) (by decide)⟩
def KH(w:aeo)(p:Ja)(l:List (List UInt8)):Prop:=0<l.length→∃b o,p=some ⟨b,o,none⟩∧b<w.heap.size∧∀i (hi:i<l.length),ak w b (o+i) (aa ⟨l[i].toArray⟩)
variable{w w' W:aeo}{p q:Ja}{l:List (List UInt8)}
theorem KH.below(h:KH w p l)(ax:ao w w w'):KH w' p l:=by intro aA;obtain⟨b,o,hp,bR,hc⟩:=h aA;exact⟨b,o,hp,km bR ax.size,fun i hi=>(ax.cell (p:=⟨b,o+i,none⟩) bR).trans (hc i hi)⟩
inductive oK(B:Nat)(w:aeo):List eC→aev→Prop
 |nil:oK B w [] []
 |cons {x:eC} {l:List eC} {q:Ja} {k:Nat} {xs:aev}:mi B w q x.args→oK B w l xs→oK B w (x::l) ((xO x (ad q x.args.length k)).toList++xs)
theorem oK.keep{T:aai}{B:Nat}{w w':aeo}{l:List eC}{xs:aev}(h:oK B w l xs)(ay:ky T w w')(av:413≠T)(az:345≠T):oK B w' l xs:=by
 induction h with
 |nil=>exact .nil
 |cons a _ cO=>exact .cons (a.keep ay av az) cO
theorem oK.append{l m:List eC}{xs fy:aev}(h:oK B w l xs)(g:oK B w m fy):oK B w (l++m) (xs++fy):=by
 induction h with
 |nil=>exact g
 |cons a _ cO=>rw[H9,List.append_assoc];exact .cons a cO
theorem oK.snoc{l:List eC}{xs:aev}(h:oK B w l xs)(x:eC)(k:Nat)(hx:mi B w q x.args):oK B w (l++[x]) (xs++(xO x (ad q x.args.length k)).toList):=by
 have az:=h.append (.cons (k:=k) hx .nil)
 rwa [List.append_nil] at az
theorem oK.get{l:List eC}{xs:aev}(h:oK B w l xs):∀(i:Nat) (hi:i<l.length),∃q c,xs[i *4]?=some (I l[i].k)∧xs[i *4+1]?=some (I l[i].n)∧xs[i *4+2]?=some (aa ⟨l[i].t.toArray⟩)∧xs[i *4+3]?=some (.slice q l[i].args.length c)∧mi B w q l[i].args:=by
 induction h with
 |nil=>exact fun i hi=>absurd hi (my _)
 |cons a _ cO=>
  intro i hi;cases i with
  |zero=>exact⟨_,_,rfl,rfl,rfl,rfl,a⟩
  |succ i=>
   obtain⟨q,c,g0,g1,g2,g3,g4⟩:=cO i (Aj hi);refine⟨q,c,?_,?_,?_,?_,g4⟩
   ·rw[show (i+1) *4=i *4+1+1+1+1 by omega];exact g0
   ·rw[show (i+1) *4+1=(i *4+1)+1+1+1+1 by omega];exact g1
   ·rw[show (i+1) *4+2=(i *4+2)+1+1+1+1 by omega];exact g2
   ·rw[show (i+1) *4+3=(i *4+3)+1+1+1+1 by omega];exact g3
variable{v:ada}
theorem am7{l:List eC}{xs:aev}(h:w.ownsRow B 259 4 v l.length xs)(ha:oK B w l xs):∃p c,v=ad p l.length c∧gY B w p l:=by
 rcases h.2 with ⟨av,az⟩|⟨g,c,cur,av,az,aC,bt,cr,c4,ez⟩
 ·exact⟨none,0,by rw[av,az],fun aA=>absurd aA (by omega)⟩
 ·refine⟨_,c,av,fun aA=>⟨g,0,cur,rfl,az,aC,fun i hi=>?_⟩⟩;obtain⟨q,k,g0,g1,g2,g3,g4⟩:=ha.get i hi;have key:∀j,j<l.length *4→cur[j]?=xs[j]?:=(fun j cd=>by rw[←ez,Eu cd,vw]);refine⟨q,k,?_,?_,?_,?_,g4⟩
  ·rw[j7,key _ (by omega)];exact g0
  ·rw[j7,key _ (by omega)];exact g1
  ·rw[j7,key _ (by omega)];exact g2
  ·rw[j7,key _ (by omega)];exact g3
def am8(bs:List eC)(i e:Nat)(w:aeo)(h3:Ending)(w':aeo):Prop:=Below w.heap.size w w'∧∃q k,h3=ab (.tuple #[ad q bs.length k,I (i:Int),I (e:Int)])∧gY w.heap.size w' q bs
def Uh:Except (Nat×Nat) (List eC)→List eC×Nat×Nat
 |.error (i,e)=>([],i,e)
 |.ok b=>(b,0,0)
theorem am9(l:List (List UInt8))(h:¬500<l.length):Bg l=Uh (zz l 0 []):=by unfold Bg;rw[aW h];cases zz l 0 []<;>rfl
def abe(k:Nat)(r:List (List UInt8))(acc:List eC):Except Nat eC→Except (Nat×Nat) (List eC)
 |.error e=>.error (k,e)
 |.ok b=>zz r (k+1) (acc++[b])
theorem ana(h:k<l.length)(acc:List eC):zz (l.drop k) k acc=abe k (l.drop (k+1)) acc (zy l[k]):=by rw[lD h];show (match zy l[k] with|.error e=>_|.ok b=>_)=_;cases zy l[k]<;>rfl
theorem anb:(Tryz.prog.info? 259).map (fun i=>(i.zero,i.size,i.bytes))=some (some (.agg #[I 0,I 0,aa ⟨#[]⟩,J 0]),4,56):=by kernel_rfl
theorem anc{X cc:aeo}{v':ada}{acc:List eC}{xs:aev}{x:eC}(hx:W.ownsRow w.heap.size 259 4 v acc.length xs)(ha:oK w.heap.size W acc xs)(ur:mi w.heap.size W q x.args)(bK:ao w w W)(c7:ao W W X)(aF:X.grownBy cc v.ownBlock)(bm:cc.ownsRow w.heap.size 259 4 v' (acc.length+1) (xs++(xO x (ad q x.args.length k)).toList)):
  (∃fy,cc.ownsRow w.heap.size 259 4 v' (acc++[x]).length fy∧oK w.heap.size cc (acc++[x]) fy)∧ao w w cc:=by
 have nV:=gC hx c7;have hK:ky 259 W cc:=(ky.dW c7).trans (.grown nV aF);refine⟨⟨_,?_,(ha.keep hK (by decide) (by decide)).snoc x k (ur.keep hK (by decide) (by decide))⟩,?_⟩
 ·rw[show (acc++[x]).length=acc.length+1 by simp];exact bm
 ·have dc:=bK.trans (c7.mono bK.size);exact dc.grown aF dc.size (fun k ay=>(nV.lt _ ay).1)
theorem abf(p:Ja)(cap:Nat)(l:List (List UInt8))(w:aeo)(lZ:af (KH w p l))(hn:l.length≤1000000)(hs:af (∀s∈l,s.length≤1000000000))(bs:List eC)(i e:Nat)(h:af (Bg l=(bs,i,e))):
  Calls Tryz.prog 92 #[ad p l.length cap] w (am8 bs i e w):=by
 by_cases cr:500<l.length
 ·have aA:=h.out;unfold Bg at aA;rw[bb cr] at aA;simp only[gh] at aA;obtain⟨rfl,rfl,rfl⟩:=aA;have ane:(500:Int)<(l.length:Int):=(by omega);clear h;go_enter Tryz.func92,Tryz.ntmps92;go_wp2_with fail;go_ret3;exact⟨Below.refl _ _,none,0,rfl,gY.nil _ _ _⟩
 ·have ane:¬(500:Int)<(l.length:Int):=(by omega);have aA:=h.out;rw[am9 l cr] at aA;have dn:=aq aA;clear aA h;go_enter Tryz.func92,Tryz.ntmps92;go_wp2_with fail
  go_loopw [5,15] (fun u x wr=>∃(k:Nat) (acc:List eC),k≤l.length∧af (acc.length=k)∧x=I (k:Int)∧af (∃xs,wr.ownsRow w.heap.size 259 4 u acc.length xs∧oK w.heap.size wr acc xs)∧af (ao w w wr)∧af (Uh (zz (l.drop k) k acc)=(bs,i,e))) (fun _ x _=>l.length -(intOf x).toNat)
  case atStart=>exact⟨0,[],dO _,rfl,rfl,⟨[],Kx _ _ _ _,.nil⟩,Below.refl _ _,dn⟩
  case round=>
   obtain⟨k,acc,ay,abg,rfl,cR,aI,bw⟩:=hrel;obtain⟨xs,hx,ha⟩:=cR.out;obtain⟨jI,cv,rfl,Ck⟩:=am7 hx ha;have mf:=aq hx;have cy:=aq ha;have Hf:=aq Ck;clear hx ha Ck cR;by_cases bR:k<l.length
   ·have hr:=bw.out;rw[ana bR] at hr;obtain⟨S,hS⟩:=jQ l[k];rw[←hS] at hr;obtain⟨Hg,Jc⟩:=ar (zy S.data.toList);have abh:=aq Jc;rw[Jc] at hr;have eO:=aq hr;obtain⟨b,o,rfl,Av,hc⟩:=lZ.out (by omega);have BJ:ak wr b (o+k) (aa S):=(by rw[aI.out.cell (p:=⟨b,o+k,none⟩) Av,hc k bR,←hS]);have anf:af (S.size≤1000000000):=(by show _≤_;rw[←cb,hS];exact hs.out _ (kT bR));have gU:(k:Int)<(l.length:Int):=(by omega);clear hr Jc hS hc bw;go_wp2_with fail;with_reducible refine (am6 S anf.out Hg abh _).mono ?_
    rintro h3 bI ⟨dY,s5⟩;have eH:=aq (aI.out.trans (dY.mono aI.out.size));have abi:=aq (gC mf.out dY);have KI:=aq (cy.out.keep (T:=0) (.dW dY) (by decide) (by decide));clear dY mf cy Hf;cases Hg with
    |error n=>
     obtain rfl:h3=ab (.tuple #[kA ct.cu bN,I (n:Int)]):=s5;have l0:n≠0:=am5 abh.out;have JL:((n:Int) !=0)=true:=(by simp;omega);have aR:=eO.out;unfold abe Uh at aR;simp only[gh] at aR;obtain⟨rfl,rfl,rfl⟩:=aR;unfold kA xO ct.cu;clear l0 eO;go_wp2_with fail;go_ret3;exact⟨eH.out.alloc eH.out.size _,none,0,rfl,gY.nil _ _ _⟩
    |ok x=>
     obtain⟨q,c,rfl,ur⟩:=s5;have Au:=aq (ur.mono aI.out.size);unfold kA xO;clear ur;have C1:acc.length≤1000000:=(by have:=abg.out;omega);obtain⟨i0,k',dy,dJ,dv⟩:=info_parts anb;have b8:=aq (And.intro k' (And.intro dy (And.intro dJ dv)));clear k' dy dJ dv;go_wp2_with (at_builtin;refine uO _ rfl _ _ _ rfl w.heap.size 259 i0 (.agg #[I 0,I 0,aa ⟨#[]⟩,J 0]) 4 56 Tryz.underlying102 b8.out.1 b8.out.2.1 b8.out.2.2.1 b8.out.2.2.2 rfl (by omega) (ad jI acc.length cv) acc.length (xs) (by rfl) ((abi.out.alloc _).alloc _) (aj (bI.heap.size+1) 0) 1 1 [I x.k,I x.n,aa ⟨x.t.toArray⟩,ad q x.args.length c] (by rfl) rfl (j8 (OX bI _ _)) (by simp[Value.oneCell']) (by unfold maxLen;omega) (by omega) (by have:=eH.out.size;simp<;>omega) ?_;intro v' w' fR hL nF;obtain⟨g',mW,rfl,_,_⟩:=fR.form (by omega);have bd:af ((∃fy,w'.ownsRow w.heap.size 259 4 (ag g' 0 (acc.length+1) mW) (acc++[x]).length fy∧oK w.heap.size w' (acc++[x]) fy)∧ao w w w'):=anc abi.out KI.out (k:=c) Au.out eH.out (((Below.refl _ _).alloc (bx _) _).alloc (by simp) _) hL fR;clear fR hL nF);go_round
     case rel=>exact⟨k+1,acc++[x],by omega,(by have:=abg.out;show (acc++[x]).length=k+1;rw[iv];simp only[Ky];omega),by go_num,bd.out.1,bd.out.2,eO⟩
     case measure=>simp[intOf];omega
   ·have OV:k=l.length:=(by omega);have gU:¬(k:Int)<(l.length:Int):=(by omega);have aR:=bw.out;rw[OV,List.drop_length] at aR;have NT:(acc,0,0)=(bs,i,e):=aR;simp only[gh] at NT;obtain⟨rfl,rfl,rfl⟩:=NT;clear aR bw;go_wp2_with fail;go_ret3;exact⟨aI.out,_,_,rfl,Hf.out⟩
def KJ(w:aeo)(p:Ja)(l:List e2):Prop:=0<l.length→∃b o,p=some ⟨b,o,none⟩∧b<w.heap.size∧∀i (hi:i<l.length),ak w b (o+i *4) (I (l[i].a:Int))∧ak w b (o+i *4+1) (U l[i].ext)∧ak w b (o+i *4+2) (U l[i].first)∧ak w b (o+i *4+3) (aa ⟨l[i].t.toArray⟩)
theorem KJ.below{l:List e2}(h:KJ w p l)(ax:ao w w w'):KJ w' p l:=by intro aA;obtain⟨b,o,hp,bR,hc⟩:=h aA;refine⟨b,o,hp,km bR ax.size,fun i hi=>?_⟩;obtain⟨aS,av,az,aC⟩:=hc i hi;exact⟨(ax.cell (p:=⟨b,o+i *4,none⟩) bR).trans aS,(ax.cell (p:=⟨b,o+i *4+1,none⟩) bR).trans av,(ax.cell (p:=⟨b,o+i *4+2,none⟩) bR).trans az,(ax.cell (p:=⟨b,o+i *4+3,none⟩) bR).trans aC⟩
def ang(res:Except (Nat×Nat) (List C))(w:aeo)(h3:Ending)(w':aeo):Prop:=Below w.heap.size w w'∧match res with
 |.ok cs=>∃v,h3=ab (.tuple #[v,I 0,I 0])∧jL w.heap.size w' v (s4 cs)
 |.error x=>h3=ab (.tuple #[bN,I (x.1:Int),I (x.2:Int)])
theorem Ui(x:Nat×C){k m:Nat}(bK:B≤W.heap.size)(hn:dH B W p x.2.bX)(ax:gY B W q x.2.blocks):
  jL B (W.alloc (ai (jm x.2 (x.1:Int) (ad p x.2.bX.length k) (ad q x.2.blocks.length m)) 104)) (ag W.heap.size 0 1 1) [x]:=by
 have hK:ky (0:aai) W (W.alloc (ai (jm x.2 (x.1:Int) (ad p x.2.bX.length k) (ad q x.2.blocks.length m)) 104)):=.dW ((Below.refl _ _).alloc (bx _) _);refine⟨_,⟨rfl,.inr ⟨W.heap.size,1,_,rfl,bK,fJ W _,bx _,by unfold maxLen;omega,rfl,?_⟩⟩,.cons (k:=k) (m:=m) (hn.keep hK (by decide)) (ax.keep hK (by decide) (by decide) (by decide)) .nil⟩;rw[List.append_nil];rfl
def uu(l:List (List UInt8)):List Value:=l.map fun s=>aa ⟨s.toArray⟩
theorem abj(h:w.ownsRow B 9 1 v l.length (uu l)):∃p c,v=ad p l.length c∧KH w p l:=by
 rcases h.2 with ⟨av,az⟩|⟨g,c,cur,av,az,aC,bt,cr,c4,ez⟩
 ·exact⟨none,0,by rw[av,az],fun aA=>absurd aA (by omega)⟩
 ·subst av;refine⟨_,c,rfl,fun aA=>⟨g,0,rfl,(Array.getElem?_eq_some_iff.1 aC).1,fun i hi=>?_⟩⟩;have fM:(uu l)[i]?=some (aa ⟨l[i].toArray⟩):=(by rw[uu,xb,mx hi];rfl);rw[j7,World.ownsRow.cellAt h i (by omega),fM]
theorem abk:∀{l:List (List UInt8)} {k:Nat} {acc:List eC} {i e:Nat},zz l k acc=.error (i,e)→i<k+l.length
 |[],k,acc,i,e,h=>by cases h
 |s::l,k,acc,i,e,h=>by
  unfold zz at h;split at h
  ·injection h with h;injection h with av _;rw[fY];omega
  ·have:=abk h;rw[fY];omega
theorem abl{b:List eC}{i e:Nat}(h:Bg l=(b,i,e))(he:e≠0):i<l.length:=by
 unfold Bg at h;split at h
 ·rename_i cr;simp only[gh] at h;omega
 ·split at h
  ·rename_i az;have:=abk az;simp only[gh] at h;omega
  ·simp only[gh] at h;omega
theorem Uj:(Tryz.prog.info? 9).map (fun i=>(i.zero,i.size,i.bytes))=some (some (aa ⟨#[]⟩),1,16):=by kernel_rfl
theorem abm{x:aeo}{b:Nat}{v0 v1 v2 v3:ada}{t:aai}(h:an x b (#[v0,v1,v2,v3]) t):
 ak x b 0 v0∧ak x b 1 v1∧ak x b 2 v2∧ak x b 3 v3:=(hb h).1
structure anh(w:aeo)(b:Nat)(c:C)(p:Ja)(k:Nat)(W:aeo):Prop where
 D8:W.heap[b]?=some (sS c 0 (ad p c.bX.length k) bN)
 bX:dH w.heap.size W p c.bX
 aX:ao w w W
theorem abn{t:au}(h:yv t=.error n):n≠0:=by
 unfold yv at h;split at h
 ·cases h;decide
 ·split at h
  ·cases h
  ·split at h
   ·cases h;decide
   ·cases h
theorem O6(bK:B≤w.heap.size)(h:sh w w'):Below B w w':=(ld h).mono bK
theorem ani{l:List e2}{z:Ua}(h:k<l.length)(e:(⟨l[k].t.toArray⟩:Ua)=z)(bm:W.ownsRow B 9 1 v n (uu ((l.take k).map e2.t)++[aa z])):W.ownsRow B 9 1 v n (uu ((l.take (k+1)).map e2.t)):=by
 have az:uu ((l.take (k+1)).map e2.t)=uu ((l.take k).map e2.t)++[aa z]:=by rw[List.take_add_one,mx h,qI,←e];simp[uu]
 rw[az];exact bm
theorem anj{X cc:aeo}{xs:aev}{fz:Nat}{hV:ajv}(hx:W.ownsRow w.heap.size 9 1 v n xs)(bK:ao w w W)(hw:an W fz hV 153)(c7:ao W W X)(aF:X.grownBy cc v.ownBlock):
  ao w w cc∧an cc fz hV 153:=by
 have nV:=gC hx c7;have dc:=bK.trans (c7.mono bK.size);have w6:=aU hw c7;exact⟨dc.grown aF dc.size (fun k ay=>(nV.lt _ ay).1),(aF.block _ (Array.getElem?_eq_some_iff.1 w6).1 (gu (m' nV w6 (by decide)))).trans w6⟩
theorem ank(p:Ja)(cap:Nat)(x:e2)(l:List e2)(w:aeo)(lZ:af (KJ w p (x::l)))(hn:l.length≤999999)(Jq:l.length+1≤cap)(OG:cap≤maxLen)(hs:af (∀y∈x::l,y.t.length≤1000000000))(res:Except (Nat×Nat) (List C))(hr:af (Bj x l=res)):
  Calls Tryz.prog 62 #[ad p (l.length+1) cap] w (ang res w):=by
 obtain⟨b,o,rfl,bR,hc⟩:=lZ.out (Dp _);have aS:=hc 0 (Dp _);rw[show o+0 *4=o by omega] at aS;obtain⟨aD,aL,mO,mP⟩:=aS;simp only[G5] at aD aL mO mP;obtain⟨T,fC⟩:=jQ x.t;have uv:(⟨x.t.toArray⟩:Ua)=T:=hY fC.symm;rw[uv] at mP;have rM:af (T.size≤1000000000):=by show _≤_;rw[←cb,fC];exact hs.out x (by simp)
 have bC:af (b<w.heap.size∧∀i (hi:i<(x::l).length),ak w b (o+i *4) (I ((x::l)[i].a:Int))∧ak w b (o+i *4+1) (U (x::l)[i].ext)∧ak w b (o+i *4+2) (U (x::l)[i].first)∧ak w b (o+i *4+3) (aa ⟨(x::l)[i].t.toArray⟩)):=⟨bR,hc⟩;have aA:=hr.out;unfold Bj at aA;rw[←fC] at aA;obtain⟨pa,Aw⟩:∃a:Int,(x.a:Int)=a:=⟨_,rfl⟩;rw[Aw] at aD;have Ey:=aq Aw;have awY:(0:Int)≤(l.length:Int):=by omega
 clear bR hc hr fC uv Aw;have ee:af ((w.alloc (ai (#[I pa,U x.ext,U x.first,aa T]) 153)).heap[w.heap.size]?=some (.cells #[I pa,U x.ext,U x.first,aa T] 153)∧ao w w (w.alloc (ai (#[I pa,U x.ext,U x.first,aa T]) 153))):=⟨fJ w _,(Below.refl _ _).alloc (bx _) _⟩;go_enter Tryz.func62,Tryz.ntmps62;go_upto_region 2 with fail;clear aD aL mO mP;generalize w.alloc (.cells #[I pa,U x.ext,U x.first,aa T] 153)=b7 at ee⊢;obtain⟨aE,aH,gQ,y3⟩:=abm ee.out.1;by_cases Hh:T.data.toList.take 2=[65,77]
 ·rw[aW (fun h=>h Hh)] at aA;obtain⟨R,hR⟩:=jQ (T.data.toList.drop 2);have bT:af (T.data.toList=(⟨#[65,77]⟩:Ua).data.toList++R.data.toList):=(by show _=_;rw[hR];exact SP (p:=[65,77]) Hh);have p5:af (R.size≤maxLen):=(by show _≤_;have av:=fp List.length hR;rw[cb,fH,cb] at av;have:=rM.out;unfold maxLen;omega);rw[←hR] at aA;obtain⟨vT,vf⟩:=ar (sq R.data.toList);have ng:=aq vf;rw[vf] at aA;clear hR vf Hh;go_wp2_with fail;with_reducible refine (pF _ _ _ bT _).mono ?_
  rintro e b9 ⟨rfl,rfl⟩;rw[n5];go_wp2_with fail;with_reducible refine (ZA R p5.out vT ng _).mono ?_
  rintro e b9 ⟨rfl,rfl⟩;cases vT with
  |false=>
   rw[bb rfl] at aA;have a':af (Except.error (x.a,3)=res):=aA;clear aA;go_upto_region 11 with fail
   go_quiet (fail)
   go_wp2_with fail;go_ret3;rw[←a'.out];exact⟨ee.out.2.trans (O6 ee.out.2.size ⟨_,rfl⟩),by rw[←Ey.out];rfl⟩
  |true=>
   rw[aW (by decide)] at aA;obtain⟨⟨bs,i,e⟩,ax⟩:=ar (Bg (l.map e2.t));have pE:=aq ax;rw[ax] at aA;simp only[] at aA;have p8:=aq aA;clear ax aA;have awZ:(l.length:Int)+1≤(cap:Int):=(by omega);obtain Jo|Jo:cap=1∨1<cap:=by omega
   ·skip
    go_wp2_with fail;clear aE aH gQ y3
    go_loopw [10,55] (fun u Ez wr=>∃(k:Nat),k≤l.length∧Ez=I (k:Int)∧af (wr.ownsRow w.heap.size 9 1 u k (uu ((l.take k).map e2.t)))∧af (ao w w wr)∧af (an wr w.heap.size (#[I pa,U x.ext,U x.first,aa T]) 153)) (fun _ Ez _=>l.length -(intOf Ez).toNat)
    case atStart=>exact⟨0,dO _,rfl,Kx _ _ _ _,ee.out.2,ee.out.1⟩
    case round=>
     obtain⟨k,ay,rfl,cR,aI,O7⟩:=hrel;obtain⟨jI,cv,rfl⟩:=jH cR.out;by_cases bR:k<l.length
     ·exfalso;omega
     ·obtain rfl:k=l.length:=(by omega);have vH:wr.ownsRow w.heap.size 9 1 (ad jI l.length cv) (l.map e2.t).length (uu (l.map e2.t)):=(by have h:=cR.out;rw[uJ] at h;rw[gO];exact h);obtain⟨yx,bz,KK,DL⟩:=abj vH;rw[gO] at KK;injection KK with a7 _ cM;subst a7;subst cM;have KL:=aq DL;have o8:=abf jI cv (l.map e2.t) wr KL (by rw[gO];omega) (aq (by intro s uf;obtain⟨y,hy,rfl⟩:=List.mem_map.1 uf;exact hs.out y (Ew _ hy))) bs i e pE;rw[gO] at o8;have Cl:=aq o8;clear vH DL o8;go_wp2_with fail;with_reducible refine Cl.out.mono ?_
      rintro h3 bI ⟨dY,q,ht,rfl,Ck⟩;have eH:=aq (aI.out.trans (dY.mono aI.out.size));have Hf:=aq (Ck.mono aI.out.size);have anl:=aq (aU O7.out dY);clear dY Ck cR KL Cl;by_cases he:e=0
      ·subst he;have a':af (Except.ok [{cI 19 with t:=R.data.toList,blocks:=bs}]=res):=(by have h:=p8.out;rw[aW (fun h=>h rfl)] at h;exact h);have Cm:=aq (Ui (W:=bI) (0,{cI 19 with t:=R.data.toList,blocks:=bs}) (p:=none) (q:=q) (k:=0) (m:=ht) eH.out.size (dH.nil _ _ _) Hf.out);clear p8;go_wp2_with fail;go_ret3;rw[←a'.out];exact⟨eH.out.alloc eH.out.size _,_,rfl,Cm.out⟩
      ·have KF:((e:Int) !=0)=true:=by simp;omega
       have Fw:i<l.length:=by
        have h:=abl pE.out he
        rwa [gO] at h
       exfalso;omega
   ·have aw0:(1:Int)<(cap:Int):=(by omega);go_wp2_with fail;clear aE aH gQ y3
    go_loopw [10,55] (fun u Ez wr=>∃(k:Nat),k≤l.length∧Ez=I (k:Int)∧af (wr.ownsRow w.heap.size 9 1 u k (uu ((l.take k).map e2.t)))∧af (ao w w wr)∧af (an wr w.heap.size (#[I pa,U x.ext,U x.first,aa T]) 153)) (fun _ Ez _=>l.length -(intOf Ez).toNat)
    case atStart=>exact⟨0,dO _,rfl,Kx _ _ _ _,ee.out.2,ee.out.1⟩
    case round=>
     obtain⟨k,ay,rfl,cR,aI,O7⟩:=hrel;obtain⟨jI,cv,rfl⟩:=jH cR.out;by_cases bR:k<l.length
     ·have gU:(k:Int)<(l.length:Int):=(by omega);obtain⟨z0,z1,z2,z3⟩:=bC.out.2 (k+1) (by rw[fY];omega);rw[←aI.out.cell (p:=⟨b,o+(k+1) *4,none⟩) bC.out.1,show o+(k+1) *4=o+4+k *4 by omega] at z0;rw[←aI.out.cell (p:=⟨b,o+(k+1) *4+1,none⟩) bC.out.1,show o+(k+1) *4=o+4+k *4 by omega] at z1;rw[←aI.out.cell (p:=⟨b,o+(k+1) *4+2,none⟩) bC.out.1,show o+(k+1) *4=o+4+k *4 by omega] at z2;rw[←aI.out.cell (p:=⟨b,o+(k+1) *4+3,none⟩) bC.out.1,show o+(k+1) *4=o+4+k *4 by omega] at z3;simp only[A6] at z0 z1 z2 z3;obtain⟨abo,y'⟩:∃a:Int,(l[k].a:Int)=a:=⟨_,rfl⟩;obtain⟨aw1,GS⟩:=ar (l[k].ext);obtain⟨aw2,abp⟩:=ar (l[k].first);obtain⟨anm,Uk⟩:∃a:Ua,(⟨l[k].t.toArray⟩:Ua)=a:=⟨_,rfl⟩;rw[y'] at z0;rw[GS] at z1;rw[abp] at z2;rw[Uk] at z3;have ann:=aq Uk;clear y' GS abp Uk;obtain⟨i0,k',dy,dJ,dv⟩:=info_parts Uj;have b8:=aq (And.intro k' (And.intro dy (And.intro dJ dv)));clear k' dy dJ dv;go_wp2_with (at_builtin;refine uO _ rfl _ _ _ rfl w.heap.size 9 i0 (aa ⟨#[]⟩) 1 16 Ug b8.out.1 b8.out.2.1 b8.out.2.2.1 b8.out.2.2.2 rfl (by omega) (ad jI k cv) k (uu ((l.take k).map e2.t)) (by rfl) ((cR.out.alloc _).alloc _) (aj (wr.heap.size+1) 0) 1 1 [aa anm] (by rfl) rfl (j8 (OX wr _ _)) (by simp[Value.oneCell']) (by unfold maxLen;omega) (by omega) (by have:=aI.out.size;simp<;>omega) ?_;intro v' w' fR hL nF;obtain⟨g',mW,rfl,_,_⟩:=fR.form (by omega);have kp:=aq (ani bR ann.out fR);have rY:=aq (anj cR.out aI.out O7.out (((Below.refl _ _).alloc (bx _) _).alloc (by simp) _) hL);clear fR hL nF);clear z0 z1 z2 z3;go_round
      case rel=>exact⟨k+1,by omega,by go_num,kp,rY.out.1,rY.out.2⟩
      case measure=>simp[intOf];omega
     ·obtain rfl:k=l.length:=(by omega);have vH:wr.ownsRow w.heap.size 9 1 (ad jI l.length cv) (l.map e2.t).length (uu (l.map e2.t)):=(by have h:=cR.out;rw[uJ] at h;rw[gO];exact h);obtain⟨yx,bz,KK,DL⟩:=abj vH;rw[gO] at KK;injection KK with a7 _ cM;subst a7;subst cM;have KL:=aq DL;have o8:=abf jI cv (l.map e2.t) wr KL (by rw[gO];omega) (aq (by intro s uf;obtain⟨y,hy,rfl⟩:=List.mem_map.1 uf;exact hs.out y (Ew _ hy))) bs i e pE;rw[gO] at o8;have Cl:=aq o8;clear vH DL o8;go_wp2_with fail;with_reducible refine Cl.out.mono ?_
      rintro h3 bI ⟨dY,q,ht,rfl,Ck⟩;have eH:=aq (aI.out.trans (dY.mono aI.out.size));have Hf:=aq (Ck.mono aI.out.size);have anl:=aq (aU O7.out dY);clear dY Ck cR KL Cl;by_cases he:e=0
      ·subst he;have a':af (Except.ok [{cI 19 with t:=R.data.toList,blocks:=bs}]=res):=(by have h:=p8.out;rw[aW (fun h=>h rfl)] at h;exact h);have Cm:=aq (Ui (W:=bI) (0,{cI 19 with t:=R.data.toList,blocks:=bs}) (p:=none) (q:=q) (k:=0) (m:=ht) eH.out.size (dH.nil _ _ _) Hf.out);clear p8;go_wp2_with fail;go_ret3;rw[←a'.out];exact⟨eH.out.alloc eH.out.size _,_,rfl,Cm.out⟩
      ·have KF:((e:Int) !=0)=true:=by simp;omega
       have Fw:i<l.length:=by
        have h:=abl pE.out he
        rwa [gO] at h
       have a':af (Except.error (l[i].a,e)=res):=(by have h:=p8.out;rw[bb he,xb,mx Fw] at h;exact h);have z0:=(bC.out.2 (i+1) (by rw[fY];omega)).1;rw[←eH.out.cell (p:=⟨b,o+(i+1) *4,none⟩) bC.out.1] at z0;simp only[A6] at z0;obtain⟨abo,y'⟩:∃a:Int,(l[i].a:Int)=a:=⟨_,rfl⟩;rw[y'] at z0;have xM:=aq y';have ano:(1:Int)+(i:Int)=((i+1:Nat):Int):=(by omega);have Ba:(i:Int)<(l.length:Int):=(by omega);have abq:((i+1:Nat):Int)<(l.length:Int)+1:=(by omega);clear p8 he y';go_upto_region 20 with fail
       go_quiet (fail)
       go_wp2_with fail;go_ret3;rw[←a'.out];exact⟨eH.out.trans (O6 eH.out.size ⟨_,rfl⟩),by rw[←xM.out];rfl⟩
 ·rw[bb Hh] at aA;have bT:af (∀r,T.data.toList≠(⟨#[65,77]⟩:Ua).data.toList++r):=SQ (p:=[65,77]) Hh;obtain⟨iJ,i7⟩:=ar (yv T.data.toList);have tv:=aq i7;rw[i7] at aA;clear i7 Hh;go_wp2_with fail;with_reducible refine (BS _ _ bT _).mono ?_
  rintro e b9 ⟨rfl,rfl⟩;go_wp2_with fail;with_reducible refine (amD T rM.out iJ tv _).mono ?_
  rintro e b9 ⟨dc,hx⟩;have c6:=aq (ee.out.2.trans (dc.mono ee.out.2.size));have abr:=aq (aU ee.out.1 dc);have rL:=aq ee.out.2.size;clear dc aE aH gQ y3 ee;cases iJ with
  |error n=>
   obtain rfl:e=ab (.tuple #[lu ct.aQ 0 bN bN,I (n:Int)]):=hx;have l0:n≠0:=abn tv.out;have JL:((n:Int) !=0)=true:=(by simp;omega);have a':af (Except.error (x.a,n)=res):=aA;have dV:af (∀w8,ao w w (b9.alloc w8)∧(b9.alloc w8).heap[w.heap.size]?=some (.cells #[I pa,U x.ext,U x.first,aa T] 153)):=fun w8=>⟨c6.out.alloc c6.out.size _,aU abr.out ((Below.refl _ _).alloc (bx _) _)⟩;unfold lu jm;clear l0 aA;go_upto_region 5 with fail;generalize Hi:b9.alloc _=c9;have gb:af (ao w w c9∧an c9 w.heap.size (#[I pa,U x.ext,U x.first,aa T]) 153):=(by rw[←Hi];exact dV.out _);clear Hi dV;obtain⟨aE,aH,gQ,y3⟩:=abm gb.out.2;go_upto_region 6 with fail
   go_quiet (fail)
   go_wp2_with fail;go_ret3;rw[←a'.out];exact⟨gb.out.1.trans (O6 gb.out.1.size ⟨_,rfl⟩),by rw[←Ey.out];rfl⟩
  |ok c=>
   obtain⟨dI,ba,rfl,h1,rX⟩:=hx;have vM:=aq (h1.mono rL.out);have nv:=aq rX;have bl:af (anh w b9.heap.size c dI ba (b9.alloc (sS c 0 (ad dI c.bX.length ba) bN))):=⟨fJ b9 _,vM.out.below ((Below.refl _ _).alloc (bx _) _),c6.out.alloc c6.out.size _⟩;unfold lu jm;unfold sS jm at bl;generalize o8:b9.heap.size=dG at bl;clear h1 rX;go_upto_region 5 with fail;generalize b9.alloc _=c9 at bl⊢;clear o8 abr c6 vM rL;by_cases aS:l.length=0
   ·have Ir:l=[]:=mT aS;have a':af (Except.ok [c]=res):=(by show _=_;rw[Ir] at aA;exact aA);have abt:¬(1:Int)<(l.length:Int)+1:=(by omega);have Cm:af (jL w.heap.size (c9.alloc (ai (#[I 0,I c.k,I c.n,I c.m,U c.on,aa ⟨c.t.toArray⟩,aa ⟨c.x.toArray⟩,aa ⟨c.y.toArray⟩,aa ⟨c.i.toArray⟩,aa ⟨c.j.toArray⟩,ad dI c.bX.length ba,bN]) 104)) (ag c9.heap.size 0 1 1) [(0,c)]):=(by have h:=Ui (W:=c9) (0,c) (p:=dI) (q:=none) (k:=ba) (m:=0) bl.out.aX.size bl.out.bX (by rw[nv.out];exact gY.nil _ _ _);rw[nv.out] at h;exact h);obtain⟨⟨aQ,aN,aJ,c3,bF,c5,bZ,b',bU,bg,cH,dR⟩,_⟩:=di bl.out.D8;clear aA aS Ir;go_wp2_with fail;go_ret3;rw[←a'.out];exact⟨bl.out.aX.alloc bl.out.aX.size _,_,rfl,Cm.out⟩
   ·obtain⟨mO,gL,mg⟩:∃mO gL,l=mO::gL:=by
     cases l with
     |nil=>exact absurd rfl aS
     |cons a b=>exact⟨a,b,rfl⟩
    have a':af (Except.error (mO.a,3)=res):=(by show _=_;rw[mg] at aA;exact aA);have abt:(1:Int)<(l.length:Int)+1:=(by omega);have z0:=(bC.out.2 1 (by rw[fY];omega)).1;rw[←bl.out.aX.cell (p:=⟨b,o+1 *4,none⟩) bC.out.1,show o+1 *4=o+4 by omega] at z0;simp only[mg,A6,G5] at z0;obtain⟨abo,y'⟩:∃a:Int,(mO.a:Int)=a:=⟨_,rfl⟩;rw[y'] at z0;have xM:=aq y';clear y' aA mg aS;go_upto_region 8 with fail
    go_quiet (fail)
    go_wp2_with fail;go_ret3;rw[←a'.out];exact⟨bl.out.aX.trans (O6 bl.out.aX.size ⟨_,rfl⟩),by rw[←xM.out];rfl⟩
end iS
