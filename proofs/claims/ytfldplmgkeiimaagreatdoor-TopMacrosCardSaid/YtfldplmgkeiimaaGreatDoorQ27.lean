/- Lemmas. -/
import Derived.Test.YtfldplmgkeiimaaGreatDoorQ26
import Derived.Lib.ConvBytes
import Derived.Laws.IdiomCopy
set_option linter.all false
set_option maxRecDepth 100000
set_option maxHeartbeats 6400000
namespace Go.Proofs.YtfldplmgkeiimaaGreatDoor
abbrev Iz:=@Proofs.Tryz.func223
abbrev IA:=@Proofs.Tryz.ntmps223
abbrev wR:=@Proofs.Tryz.func224
abbrev wS:=@Proofs.Tryz.ntmps224
abbrev P2:=@List.take_add_one
namespace gT
open Go.RowKit ny j6 px Mem p1 bS
def L4:Option (ByteArray×ByteArray)→Ending→Prop
 |none,e=>e=ab (.tuple #[aa ⟨#[]⟩,aa ⟨#[]⟩,U false])
 |some x,e=>e=ab (.tuple #[aa x.1,aa x.2,U true])
theorem adq(s:au):∃o:Option (ByteArray×ByteArray),ug s=o.map fun x=>(x.1.data.toList,x.2.data.toList):=by
 unfold ug;split
 ·exact⟨none,rfl⟩
 ·exact⟨some (⟨(s.take (bA s)).toArray⟩,⟨(s.drop (bA s)).toArray⟩),rfl⟩
theorem Lb(S:Ua)(hs:S.size≤1000000000)(o:Option (ByteArray×ByteArray))(bl:af (ug S.data.toList=o.map fun x=>(x.1.data.toList,x.2.data.toList)))(w:aeo):
  Calls Tryz.prog 220 #[aa S] w fun e w'=>L4 o e∧HI w w':=by
 have aA:=bl.out;unfold ug at aA;obtain⟨n,hn⟩:=ar (bA S.data.toList);have ot:=aq hn
 have jb:af (n=0→o=none):=by
  intro h;rw[a8 (.inl (by rw[hn];exact h))] at aA;cases o with
  |none=>rfl
  |some x=>cases aA
 have pB:af (∀h:0<S.size,S[0]=48→o=none):=by
  intro hp h;rw[a8 (.inr (by rw[Ar S hp];exact h))] at aA;cases o with
  |none=>rfl
  |some x=>cases aA
 have wB:af (n≠0→∀h:0<S.size,S[0]≠48→o=some (S.extract 0 n,S.extract n S.size)):=by
  intro aT hp h;rw[aR (by rintro (av|av);exact aT (by rw[←hn];exact av);exact h (by rw[Ar S hp] at av;exact av))] at aA;cases o with
  |none=>cases aA
  |some x=>
   obtain⟨a,b⟩:=x;have az:=EJ aA;simp only[fS] at az;have ha:a=S.extract 0 n:=lY (by rw[CG,←hn];exact az.1.symm);have ay:b=S.extract n S.size:=lY (by rw[mS,←hn];exact az.2.symm);rw[ha,ay]
 clear aA hn bl;go_enter Tryz.func220,Tryz.ntmps220;go_wp2_with fail
 go_loop [5] (fun i=>∃k:Nat,af (k≤bA S.data.toList)∧i=I (k:Int)) (fun i=>S.size -(intOf i).toNat)
 case atStart=>exact⟨0,eE _,rfl⟩
 case round=>
  obtain⟨k,dn,rfl⟩:=hrel;have iE:k≤S.size:=(by have av:=rD S.data.toList;have:=dn.out;rw[cG] at av;omega);by_cases b1:k<S.size
  ·have K4:k<S.data.toList.length:=(by rw[cG];exact b1);have i':(k:Int)<(S.size:Int):=(by omega);by_cases hd:48≤S[k].toNat∧S[k].toNat≤57
   ·have bf:af (k+1≤bA S.data.toList):=Ni dn.out K4 (by rw[n7 S k b1];exact (qU _).2 hd);obtain⟨hQ,gL⟩:=hd;go_wp2_with fail;go_round
    case rel=>exact⟨k+1,bf,by go_num⟩
    case measure=>simp[intOf];omega
   ·have bf:af (k=n):=(by show _=_;rw[←ot.out];exact (JA dn.out K4 (by rw[n7 S k b1];exact (Jy _).2 (by omega))).symm);by_cases av:48≤S[k].toNat
    ·have az:¬S[k].toNat≤57:=fun h=>hd ⟨av,h⟩;obtain rfl:k=n:=bf.out;clear bf dn;by_cases aT:k=0
     ·have bd:=aq (jb.out aT);have bQ:((k:Int)==0)=true:=(by simp;omega);clear aT;go_wp2_with fail;go_ret3;rw[bd.out];exact⟨rfl,0,rfl⟩
     ·have bQ:((k:Int)==0)=false:=(by simp;omega);have hp:0<S.size:=(by omega);obtain⟨c,hc⟩:=ar (S[0]);by_cases iJ:c=48
      ·have bd:=aq (pB.out hp (hc.trans iJ));subst iJ;have aD:((48:UInt8).toNat:Int)=48:=rfl;clear aT;go_wp2_with fail;go_ret3;rw[bd.out];exact⟨rfl,0,rfl⟩
      ·have bd:=aq (wB.out aT hp (by rw[hc];exact iJ));have aD:((c.toNat:Int)==48)=false:=HJ (k:=48) (by decide) iJ;clear aT iJ;go_wp2_with fail;go_region
       all_goals
        go_wp2_with fail;go_ret3;rw[bd.out];exact⟨rfl,1,rfl⟩
    ·skip
     obtain rfl:k=n:=bf.out;clear bf dn;by_cases aT:k=0
     ·have bd:=aq (jb.out aT);have bQ:((k:Int)==0)=true:=(by simp;omega);clear aT;go_wp2_with fail;go_ret3;rw[bd.out];exact⟨rfl,0,rfl⟩
     ·have bQ:((k:Int)==0)=false:=(by simp;omega);have hp:0<S.size:=(by omega);obtain⟨c,hc⟩:=ar (S[0]);by_cases iJ:c=48
      ·have bd:=aq (pB.out hp (hc.trans iJ));subst iJ;have aD:((48:UInt8).toNat:Int)=48:=rfl;clear aT;go_wp2_with fail;go_ret3;rw[bd.out];exact⟨rfl,0,rfl⟩
      ·have bd:=aq (wB.out aT hp (by rw[hc];exact iJ));have aD:((c.toNat:Int)==48)=false:=HJ (k:=48) (by decide) iJ;clear aT iJ;go_wp2_with fail;go_region
       all_goals
        go_wp2_with fail;go_ret3;rw[bd.out];exact⟨rfl,1,rfl⟩
  ·have bf:af (k=n):=(by show _=_;rw[←ot.out];have av:=rD S.data.toList;have:=dn.out;rw[cG] at av;omega);have i':¬((k:Int)<(S.size:Int)):=(by omega);obtain rfl:k=n:=bf.out;clear bf dn;by_cases aT:k=0
   ·have bd:=aq (jb.out aT);have bQ:((k:Int)==0)=true:=(by simp;omega);clear aT;go_wp2_with fail;go_ret3;rw[bd.out];exact⟨rfl,0,rfl⟩
   ·have bQ:((k:Int)==0)=false:=(by simp;omega);have hp:0<S.size:=(by omega);obtain⟨c,hc⟩:=ar (S[0]);by_cases iJ:c=48
    ·have bd:=aq (pB.out hp (hc.trans iJ));subst iJ;have aD:((48:UInt8).toNat:Int)=48:=rfl;clear aT;go_wp2_with fail;go_ret3;rw[bd.out];exact⟨rfl,0,rfl⟩
    ·have bd:=aq (wB.out aT hp (by rw[hc];exact iJ));have aD:((c.toNat:Int)==48)=false:=HJ (k:=48) (by decide) iJ;clear aT iJ;go_wp2_with fail;go_region
     all_goals
      go_wp2_with fail;go_ret3;rw[bd.out];exact⟨rfl,1,rfl⟩
theorem ap7(S:Ua)(n:Int)(hn:af (qu S.data.toList=n))(w:aeo):
  Calls Tryz.prog 223 #[aa S] w fun e w'=>e=ab (I n)∧w=w':=by
 have aA:=hn.out;unfold qu at aA;by_cases bW:S.data.toList=[49]
 ·rw[a8 bW] at aA;have a1:(S.toList==[49])=true:=(by rw[eR];exact e' bW);subst aA;clear hn bW;go_enter Iz,IA;go_wp2_with fail;go_ret;exact⟨rfl,rfl⟩
 ·rw[aR bW] at aA;have a1:(S.toList==[49])=false:=(by rw[eR];exact eT bW);by_cases cj:S.data.toList=[52]
  ·rw[a8 cj] at aA;have a6:(S.toList==[52])=true:=(by rw[eR];exact e' cj);subst aA;clear hn bW cj;go_enter Iz,IA;go_wp2_with fail;go_ret;exact⟨rfl,rfl⟩
  ·rw[aR cj] at aA;have a6:(S.toList==[52])=false:=(by rw[eR];exact eT cj);by_cases eb:S.data.toList=[55]
   ·rw[a8 eb] at aA;have ch:(S.toList==[55])=true:=(by rw[eR];exact e' eb);subst aA;clear hn bW cj eb;go_enter Iz,IA;go_wp2_with fail;go_ret;exact⟨rfl,rfl⟩
   ·rw[aR eb] at aA;have ch:(S.toList==[55])=false:=(by rw[eR];exact eT eb);by_cases gi:S.data.toList=[50,48]
    ·rw[a8 gi] at aA;have gw:(S.toList==[50,48])=true:=(by rw[eR];exact e' gi);subst aA;clear hn bW cj eb gi;go_enter Iz,IA;go_wp2_with fail;go_ret;exact⟨rfl,rfl⟩
    ·rw[aR gi] at aA;have gw:(S.toList==[50,48])=false:=(by rw[eR];exact eT gi);by_cases ju:S.data.toList=[50,49]
     ·rw[a8 ju] at aA;have na:(S.toList==[50,49])=true:=(by rw[eR];exact e' ju);subst aA;clear hn bW cj eb gi ju;go_enter Iz,IA;go_wp2_with fail;go_ret;exact⟨rfl,rfl⟩
     ·rw[aR ju] at aA;have na:(S.toList==[50,49])=false:=(by rw[eR];exact eT ju);subst aA;clear hn bW cj eb gi ju;go_enter Iz,IA;go_wp2_with fail;go_ret;exact⟨rfl,rfl⟩
theorem Vj(n:Int)(k:Nat)(p:Ja)(c:Nat)(b:Bool)(hn:n=1∨n=4∨n=7∨n=20∨n=21)(ax:k≤1100)(ay:af (lV n k=b))(w:aeo):
  Calls Tryz.prog 224 #[.agg #[I 3,I n,aa ⟨#[]⟩,ad p k c]] w fun e w'=>e=ab (U b)∧ao w w w':=by
 have hx:af (b=lV n k):=ay.out.symm;clear ay;have fa:∀o,af (ao w w (w.alloc o)):=fun o=>(Below.refl _ _).alloc (bx _) _;obtain rfl|rfl|rfl|rfl|rfl:=hn
 ·skip
  by_cases aT:k=4
  ·have bQ:((k:Int)==4)=true:=(by simp;omega);go_enter wR,wS;go_wp2_with fail;go_ret;refine⟨ej ?_,(fa _).out⟩;rw[hx.out];simp[lV, *]
  ·have bQ:((k:Int)==4)=false:=(by simp;omega);by_cases av:k=5
   ·have bU:((k:Int)==5)=true:=(by simp;omega);go_enter wR,wS;go_wp2_with fail;go_ret;refine⟨ej ?_,(fa _).out⟩;rw[hx.out];simp[lV, *]
   ·have bU:((k:Int)==5)=false:=(by simp;omega);go_enter wR,wS;go_wp2_with fail;go_ret;refine⟨ej ?_,(fa _).out⟩;rw[hx.out];simp[lV, *]
 ·skip
  by_cases aT:k%2=1
  ·have bQ:((k:Int)%2==1)=true:=(by simp;omega);have ap8:(Int.tmod (k:Int) 2==1)=true:=(by rw[y7 (by omega)];exact bQ);by_cases av:7≤k
   ·have bU:7≤(k:Int):=(by omega);have a7:(k:Int)≤1100:=(by omega);go_enter wR,wS;go_wp2_with fail;go_ret;refine⟨ej ?_,(fa _).out⟩;rw[hx.out];simp[lV, *]
   ·have bU:¬7≤(k:Int):=(by omega);go_enter wR,wS;go_wp2_with fail;go_ret;refine⟨ej ?_,(fa _).out⟩;rw[hx.out];simp[lV, *]
  ·have bQ:((k:Int)%2==1)=false:=(by simp;omega);have ap8:(Int.tmod (k:Int) 2==1)=false:=(by rw[y7 (by omega)];exact bQ);go_enter wR,wS;go_wp2_with fail;go_ret;refine⟨ej ?_,(fa _).out⟩;rw[hx.out];simp[lV, *]
 ·skip
  by_cases aT:k=6
  ·have bQ:((k:Int)==6)=true:=(by simp;omega);go_enter wR,wS;go_wp2_with fail;go_ret;refine⟨ej ?_,(fa _).out⟩;rw[hx.out];simp[lV, *]
  ·have bQ:((k:Int)==6)=false:=(by simp;omega);go_enter wR,wS;go_wp2_with fail;go_ret;refine⟨ej ?_,(fa _).out⟩;rw[hx.out];simp[lV, *]
 ·skip
  by_cases aT:k=7
  ·have bQ:((k:Int)==7)=true:=(by simp;omega);go_enter wR,wS;go_wp2_with fail;go_ret;refine⟨ej ?_,(fa _).out⟩;rw[hx.out];simp[lV, *]
  ·have bQ:((k:Int)==7)=false:=(by simp;omega);go_enter wR,wS;go_wp2_with fail;go_ret;refine⟨ej ?_,(fa _).out⟩;rw[hx.out];simp[lV, *]
 ·skip
  by_cases aT:k=6
  ·have bQ:((k:Int)==6)=true:=(by simp;omega);go_enter wR,wS;go_wp2_with fail;go_ret;refine⟨ej ?_,(fa _).out⟩;rw[hx.out];simp[lV, *]
  ·have bQ:((k:Int)==6)=false:=(by simp;omega);go_enter wR,wS;go_wp2_with fail;go_ret;refine⟨ej ?_,(fa _).out⟩;rw[hx.out];simp[lV, *]
theorem adr:∀(l:au) (acc:Nat),(∀c∈l,e2 c=true)→Lib.decFrom acc l=some (l.foldl (fun v c=>v *10+(c.toNat-48)) acc)
 |[],acc,_=>rfl
 |c::r,acc,h=>by have hc:=(qU _).1 (h c (by simp));unfold Lib.decFrom Lib.digitVal;rw[a8 hc];exact adr r _ fun d hd=>h d (Af _ hd)
theorem ap9{l:au}(aT:l≠[])(h:∀c∈l,e2 c=true):Lib.atoi l=some (val l:Int):=by
 cases l with
 |nil=>exact absurd rfl aT
 |cons b r=>
  have ay:=(qU _).1 (h b (by simp));have dy:(b==45)=false:=(by rw[uO];rintro rfl;exact absurd ay (by decide));have eU:(b==43)=false:=(by rw[uO];rintro rfl;exact absurd ay (by decide));show (if (b==45)=true then (Lib.decNat r).map (fun (m:Nat)=>-(m:Int)) else if (b==43)=true then (Lib.decNat r).map (fun (m:Nat)=>(m:Int)) else (Lib.decNat (b::r)).map (fun (m:Nat)=>(m:Int)))=_;unfold Lib.decNat;rw[dy,eU,List.isEmpty_cons,aR (by decide),aR (by decide),aR (by decide),adr _ _ h];rfl
theorem ads{s d r:au}(h:ug s=some (d,r)):d≠[]∧(∀c∈d,e2 c=true)∧d.length≤s.length∧r.length≤s.length:=by
 unfold ug at h;split at h
 ·cases h
 ·rename_i hn;have az:=EJ h;simp only[fS] at az;obtain⟨rfl,rfl⟩:=az;have aF:=rD s;refine⟨?_,?_,?_,?_⟩
  ·intro bk;have b9:=fK List.length bk;rw[kj,rC] at b9;have cW:bA s≠0:=fun h=>hn (.inl h);omega
  ·intro c hc;obtain⟨i,hi,rfl⟩:=List.getElem_of_mem hc;rw[kj] at hi;rw[List.getElem_take];exact (yU s).1 i (by omega) (by omega)
  ·rw[kj];omega
  ·rw[gI];omega
theorem aqa(D:Ua)(aT:D.data.toList≠[])(h:∀c∈D.data.toList,e2 c=true)(hs:D.size≤18)(n:Int)(hn:(val D.data.toList:Int)=n)(w:aeo):
  Calls Tryz.prog 221 #[aa D] w fun e w'=>e=ab (.tuple #[I n,.nilIface])∧ao w w w':=by
 refine (Tryz.strconv_Atoi D _ hs (ap9 aT h) w).mono fun e w' ⟨he,t,bB⟩=>⟨by rw[he,hn],?_⟩;rw[bB];exact⟨rfl,rfl,rfl,by rw[Lib.bytesWorld_size];omega,fun k ax=>Lib.bytesWorld_at_old _ _ _ _ ax⟩
end gT
namespace c4
open Go.RowKit dH
open bS (eg lV)
open gT (ow lk fG Vj)
open FF (pc eO nS)
structure hE where
 n:Int
 vs:List Int
 b:cJ
def hE.hL(m:hE):eg:=⟨3,m.n,[],m.vs.map fun v=>[(1,v *1000000)]⟩
structure hE.e7(m:hE):Prop where
 p:Prim m.n m.vs m.b
 v:∀v∈m.vs,0≤v∧v≤8
 t:po h1 ⟨m.b,.nil⟩=some ⟨m.b,.nil⟩
def ie:List hE→bc
 |[]=>.nil
 |m::l=>.cons true m.b .nil (ie l)
theorem L5:∀l:List hE,(ie l).len=l.length
 |[]=>rfl
 |m::l=>by simp[ie,bc.len,L5 l]
theorem adt:∀l pv:List hE,ie (l++pv)=(ie l).append (ie pv)
 |[],pv=>rfl
 |m::l,pv=>by simp[ie,bc.append,adt l pv]
theorem adu:∀l:List hE,(ie l).count=l.length
 |[]=>rfl
 |m::l=>by simp[ie,bc.count,adu l]
variable{m:hE}
theorem hE.e7.fits(h:m.e7):lV m.n m.vs.length=true∧m.vs.length≤6∧0<m.vs.length∧(m.n=1∨m.n=21):=by
 obtain⟨n,vs,b⟩:=m;rcases h.p with ⟨rfl,d,x,y,rfl,av,rfl⟩|⟨rfl,d,h,x,y,rfl,av,az,rfl⟩
 ·exact⟨show lV 1 4=true by decide,by simp,by simp,.inl rfl⟩
 ·exact⟨show lV 21 6=true by decide,by simp,by simp,.inr rfl⟩
abbrev FM:TypeId:=259
variable{w X Y:aeo}{ms:List hE}{j V k F:Nat}
theorem adv{p:Ja}(h:fG 0 w p (ms.map hE.hL))(hm:ms[j]?=some m):∃b o q c,p=some ⟨b,o,none⟩∧ak w b (o+j *4) (I 3)∧ak w b (o+j *4+1) (I m.n)∧ak w b (o+j *4+2) (aa ⟨#[]⟩)∧ak w b (o+j *4+3) (ad q m.vs.length c)∧lk 0 w q (m.vs.map fun v=>[(1,v *1000000)]):=by
 obtain⟨cr,rfl⟩:=List.getElem?_eq_some_iff.1 hm;obtain⟨b,o,cs,hp,_,aJ,lE⟩:=h (by rw[e6];omega);obtain⟨q,c,aT,av,az,aF,bk⟩:=lE j (by rw[e6];omega);simp only[Ha] at aT av az aF bk;refine⟨b,o,q,c,hp,cell_of aJ aT,cell_of aJ av,cell_of aJ az,?_,bk⟩;have e:ms[j].hL.args.length=ms[j].vs.length:=by simp[hE.hL]
 rw[e] at aF;exact cell_of aJ aF
variable{vs:List Int}
theorem args_at{p:Ja}(h:lk 0 w p (vs.map fun v=>[(1,v *1000000)])){v:Int}(aS:vs[j]?=some v):∃b o a bo cO c,p=some ⟨b,o,none⟩∧a=Value.slice (some (aj bo cO)) 1 c∧ak w b (o+j) a∧ak w bo cO (I 1)∧ak w bo (cO+1) (I (v *1000000)):=by obtain⟨cr,rfl⟩:=List.getElem?_eq_some_iff.1 aS;obtain⟨b,o,cs,hp,_,aJ,lE⟩:=h (by rw[e6];omega);obtain⟨q,c,aT,av⟩:=lE j (by rw[e6];omega);simp only[Ha] at aT av;obtain⟨bo,cO,wq,aH,_,nL,aqb⟩:=av (by simp);obtain⟨bQ,bU⟩:=aqb 0 (by simp);subst aH;exact⟨b,o,_,bo,cO,c,hp,rfl,cell_of aJ aT,cell_of nL (by simpa using bQ),cell_of nL (by simpa using bU)⟩
structure wT(w:aeo)(F:Nat)(ms:List hE)(k:Nat)(R:afp)(e5:ada)(xs:aev)(Y:aeo):Prop where
 aZ:ao w w Y
 r:Y.heap[w.heap.size]?=some qH
 f:an Y F (q6 ew dr e5) dz
 own:Y.ownsRow w.heap.size eQ 11 e5 k xs
 at_:ds R Y (ie (ms.take k)) xs
 fU:∀b,R b→w.heap.size<b∧b<Y.heap.size∧b≠F∧e5.ownBlock≠some b
 Fl:w.heap.size<F
theorem wT.below{w:aeo}{F:Nat}{ms:List hE}{k:Nat}{R:afp}{e5:ada}{xs:aev}{Y Z:aeo}(h:wT w F ms k R e5 xs Y)(ay:ao Y Y Z):wT w F ms k R e5 xs Z:=
 ⟨h.aZ.trans (ay.mono h.aZ.size),aU h.r ay,aU h.f ay,e9 h.own ay,h.at_.below ay,fun b hR=>⟨(h.fU b hR).1,jN (h.fU b hR).2.1 ay.size,(h.fU b hR).2.2⟩,h.Fl⟩
def vk(V:Nat)(vs:List Int)(k:Nat)(X:aeo):Prop:=∃cs:ajv,an X V cs mf∧cs.size=vs.length *2∧∀i v,i<k→vs[i]?=some v→cs[i *2]?=some (I v)∧cs[i *2+1]?=some (I 1)
theorem adw:∀l:List Int,(FH l).length=l.length *2
 |[]=>rfl
 |v::l=>by simp[FH,adw l];omega
theorem vk.below{Z:aeo}(h:vk V vs k X)(ay:ao X X Z):vk V vs k Z:=by obtain⟨cs,av,az,aF⟩:=h;exact⟨cs,aU av ay,az,aF⟩
theorem vk.at(h:vk V vs k X)(cr:j<vs.length):V<X.heap.size∧(∃u,ak X V (j *2) u)∧(∃u,ak X V (j *2+1) u)∧∀i,X.frozen? ⟨V,i,none⟩=false:=by obtain⟨cs,av,az,aF⟩:=h;exact⟨lt_of_heap av,⟨_,cell_of av (J7 (by omega))⟩,⟨_,cell_of av (J7 (by omega))⟩,cR av⟩
theorem vk.done(h:vk V vs vs.length X):an X V ((FH vs).toArray) mf:=by
 obtain⟨cs,av,az,aF⟩:=h;rw[av]
 congr 2
 apply N3;intro i;rcases RY i (vs.length *2) with hi|hi
 ·obtain⟨v,aS⟩:∃v,vs[i/2]?=some v:=⟨_,l8 (by omega)⟩;obtain⟨g1,g2⟩:=aF (i/2) v (by omega) aS;obtain⟨bU,a7⟩:=UX vs (i/2) v aS;rcases Nat.mod_two_eq_zero_or_one i with e|e
  ·rw[show i=i/2 *2 by omega,g1];simpa using bU.symm
  ·rw[show i=i/2 *2+1 by omega,g2];simpa using a7.symm
 ·rw[D4 (by omega),D4 (by simp[adw];omega)]
theorem vk.put(h:vk V vs k X){v:Int}(aS:vs[k]?=some v):vk V vs (k+1) ((X.setCell (aj V (k *2)) (I v)).setCell (aj V (k *2+1)) (I 1)):=by
 obtain⟨cs,av,az,aF⟩:=h;have ax:=(List.getElem?_eq_some_iff.1 aS).1;refine⟨_,dL _ (dL _ av),by simp[az],fun i u hi hu=>?_⟩;by_cases e:i=k
 ·subst e;obtain rfl:v=u:=(by simpa[aS] using hu);exact⟨by rw[we (by omega),G' (by omega)],by rw[G' (by simp;omega)]⟩
 ·obtain⟨g1,g2⟩:=aF i u (by omega) hu;exact⟨by rw[we (by omega),we (by omega)];exact g1,by rw[we (by omega),we (by omega)];exact g2⟩
theorem aqc{S:afp}{G:Nat}{b:cJ}(h:hM S w (some (aj G 0)) (.cons true b .nil .nil)):∃news:aev,news.length=11∧(∀Z:aeo,ao w w Z→∀j u,news[j]?=some u→Z.cell? ((⟨G,0,none⟩:Addr).add j)=some u)∧(∀u∈news,u.oneCell'=true)∧ds S w (.cons true b .nil .nil) news:=by
 obtain⟨k,o,cs,hp,hS,aJ,eJ⟩:=h.2 (by show 0<1;decide);obtain⟨rfl,rfl⟩:G=k∧0=o:=by simpa using hp
 rw[rR] at eJ;have aA:=eJ.long;refine⟨cs.toList.take 11,?_,fun Z eG j u hu=>?_,fun u hu=>aA.2 u hu,eJ.congr (by rw[Ef];rfl)⟩
 ·have:=aA.1;rw[kj];simp only[bc.len] at this;omega
 ·rw[s6] at hu;split at hu
  ·rw[show (⟨G,0,none⟩:Addr).add j=⟨G,j,none⟩ by unfold Addr.add;split<;>simp_all];exact bP eG (cell_of aJ (by simpa using hu))
  ·cases hu
variable{R:afp}{e5:ada}{xs:aev}
theorem wT.push{news:aev}{Z o5 bt:aeo}{dh cap:Nat}(h:wT w F ms k R e5 xs Y)(hm:ms[k]?=some m)(x1:ao Y Y Z)(P3:ao Z Z o5)(hp:ds (fun b=>Y.heap.size≤b) Z (.cons true m.b .nil .nil) news)(cI:bt.ownsRow w.heap.size eQ 11 (ag dh 0 (k+1) cap) (k+1) (xs++news))(dO:o5.grownBy bt e5.ownBlock)(eJ:e5.ownBlock=some dh∨Z.heap.size≤dh):
  wT w F ms (k+1) (fun b=>R b∨(Y.heap.size≤b∧b<Z.heap.size)) (ag dh 0 (k+1) cap) (xs++news) (bt.setCell (aj F 9) (ag dh 0 (k+1) cap)):=by
 have eG:=h.below x1;have axW:=x1.trans (P3.mono x1.size);have IB:=eG.below P3;have P4:e5.ownBlock≠some F:=by intro e;obtain⟨_,_,cur,hc⟩:=o8 h.own e;exact lL hc h.f (by decide) rfl
 have aqd:e5.ownBlock≠some w.heap.size:=by intro e;obtain⟨_,_,cur,hc⟩:=o8 h.own e;exact lL hc h.r (by decide) rfl
 have hK:aQ (fun b=>e5.ownBlock≠some b∧b≠F) o5 (bt.setCell (aj F 9) (ag dh 0 (k+1) cap)):=(aQ.grown dO fun k e ax=>ax.1 e).trans (aQ.set (a:=⟨F,9,none⟩) (fun ax=>ax.2 rfl) _);have adx:an bt F (q6 ew dr e5) dz:=(dO.block F (lt_of_heap IB.f) (gJ P4)).trans IB.f;obtain⟨axX,cur,gp⟩:=sq cI;have axY:=lt_of_heap h.f;have axZ:=lt_of_heap h.r
 exact {
  aZ:=IB.aZ.trans (hK.below _ IB.aZ.size fun b ay=>⟨fun e=>by have:=(o8 h.own e).1;omega,by have:=h.Fl;omega⟩)
  r:=hK.get ⟨aqd,wM h.Fl⟩ IB.r
  f:=by have:=dL (k:=F) (i:=9) (ag dh 0 (k+1) cap) adx;exact this
  own:=mF cI (aQ.set (S:=fun b=>b≠F) (a:=⟨F,9,none⟩) (fun ax=>ax rfl) _) fun b e=>by have a6:dh=b:=(by simpa[Value.ownBlock] using e);rw[←a6];exact lL gp adx (by decide)
  at_:=by
   have e:ms.take (k+1)=ms.take k++[m]:=(by rw[P2,hm];rfl);rw[e,adt];refine ds.append ?_ ?_ ?_
   ·exact ((IB.at_.keep (hK.mono fun b _ ay=>⟨(h.fU b ay).2.2.2,(h.fU b ay).2.2.1⟩)).mono fun b _ ay=>.inl ay)
   ·rw[L5,h.own.1,kj,xH];exact tn (List.getElem?_eq_some_iff.1 hm).1
   ·exact ((((hp.mono (R:=fun b=>Y.heap.size≤b∧b<Z.heap.size) fun b av az=>⟨az,av⟩).below P3).keep (hK.mono fun b _ ay=>⟨fun e=>by have:=(o8 h.own e).2.1;omega,by omega⟩)).mono fun b _ ay=>.inr ay)
  fU:=fun b ay=>by
   have hs:=hK.size;have:=x1.size;have:=P3.size;rcases ay with ay|ay
   ·have av:=h.fU b ay;refine⟨av.1,by omega,av.2.2.1,fun e=>?_⟩;have a6:dh=b:=(by simpa[Value.ownBlock] using e);subst a6;rcases eJ with ha|ha
    ·exact av.2.2.2 ha
    ·omega
   ·refine⟨by omega,by omega,by omega,fun e=>?_⟩;have a6:dh=b:=(by simpa[Value.ownBlock] using e);subst a6;rcases eJ with ha|ha
    ·have:=(o8 h.own ha).2.1;omega
    ·omega
  Fl:=h.Fl}
theorem aqe{P:Program}(w:aeo)(KS Tr ty elem:aai)(a:Addr)(KT Ts:Nat)(q:Ja)(d bG:Nat)(hu:P.underlying KS=some (.slice elem))(hs:(P.info? elem).map (·.size)=some bG):(Builtin.copy_ #[KS,Tr] ty #[ad (some a) KT Ts,ad q 0 d]).run P w=.ok (I 0) w:=by
 cases aH:P.info? elem with
 |none=>simp[aH] at hs
 |some i=>
  have hi:i.size=bG:=(by simpa[aH] using hs);have aA:∀x:Addr,(loadCells x 0).run P w=.ok #[] w:=(fun x=>by simpa using run_loadCells_list (P:=P) w x [] (by simp));cases q<;>simp[Builtin.copy_,jq hu,Builtin.lenOf,Builtin.firstCells,sizeOf,typeInfo,aH,hi,storeCells,aA]<;>rfl
theorem wT.ady{dh cap:Nat}(h:wT w F ms k R (ag dh 0 k cap) xs Y)(ax:k≤ms.length)(cW:k≤6):hM (fun b=>w.heap.size<b) Y (some (aj dh 0)) (ie (ms.take k)):=by
 have aA:(ie (ms.take k)).len=k:=by rw[L5,kj,xH ax]
 refine⟨by rw[aA];unfold mo;omega,fun _=>?_⟩;rcases h.own.2 with ⟨av,_⟩|⟨g,c,cur,av,bL,aJ,_,_,hs,bB⟩
 ·cases av
 ·simp only[Value.slice.injEq,mi,Addr.mk.injEq,Ku,true_and] at av;obtain⟨rfl,rfl⟩:=av;refine⟨dh,0,cur,rfl,Nat.lt_of_le_of_ne bL (fun e=>lL aJ h.r (by decide) e.symm),aJ,?_⟩;rw[rR];refine (h.at_.mono fun b _ ay=>(h.fU b ay).1).congr ?_;rw[aA,bB,vX (HZ h.own.1)]
theorem wT.fin(h:wT w F ms k R e5 xs Y)(ax:ms.length=k)(cW:k≤6):∃pp cp,e5=ad pp (ie ms).len cp∧dv (fun b=>w.heap.size<b) Y none 0 pp cp ⟨ew,ie ms⟩:=by
 have aA:(ie ms).len=k:=by rw[L5,ax]
 have bB:ms.take k=ms:=vX (HZ ax);rw[aA];have cI:=h.own.2;rcases cI with ⟨av,az⟩|⟨g,c,cur,av,bL,aJ,hle,_,hs,_⟩
 ·subst av az
  exact ⟨none,0,rfl,⟨.nil _ _ _,by
   cases ms with
   |nil=>exact .nil _ _ _
   |cons a l=>simp at ax,bx _,by show (ie ms).len≤0;omega⟩⟩
 ·subst av;have hp:=h.ady (HZ ax.symm) cW;rw[bB] at hp;exact⟨some ⟨g,0,none⟩,c,rfl,⟨.nil _ _ _,hp,bx _,by show (ie ms).len≤c;omega⟩⟩
theorem aqf(ms:List hE)(hm:af (∀m∈ms,hE.e7 m))(aA:ms.length≤6)(p:Ja)(c:Nat)(q:Ja)(d:Nat)(w:aeo)(aO:af (fG 0 w p (ms.map hE.hL))):
  Calls Tryz.prog 226 #[ad p ms.length c,ad q 0 d,I 1] w fun e w'=>Below w.heap.size w w'∧∃pp cp,e=ab (.tuple #[iD ew dr (ad pp (ie ms).len cp),I 0])∧dv (fun k=>w.heap.size≤k) w' none 0 pp cp ⟨ew,ie ms⟩:=by
 obtain⟨n,hn⟩:=ar ms.length;have bf:=aq hn;rw[hn] at aA⊢;clear hn;have bq:=aq (cd w qH);have aqg:∀Z:aeo,(Instr.makeSlice 349 (I 99) (I 99)).run Tryz.prog Z=.ok (ag Z.heap.size 0 99 99) (Z.alloc (ai (madeCells #[I 0,I 0] 198) mf)):=fun Z=>AF _ _ _ 2 16 LN PS 99 (by decide) (by decide) Z;have aax:∀(Z:aeo) (V:Nat),(Builtin.copy_ #[349,349] 3 #[ag V 0 99 99,ad q 0 d]).run Tryz.prog Z=.ok (I 0) Z:=fun Z V=>aqe Z _ _ _ mf (aj V 0) 99 99 q d 2 LN (by kernel_rfl);go_enter Tryz.func226,Tryz.ntmps226;go_wp2_with fail
 go_loopw [27] (fun i wr=>∃(j:Nat) (W:aeo),W=wr∧j≤n∧i=I j∧af (ao w w W)∧af (W.heap[w.heap.size]?=some qH)) (fun i _=>n -(intOf i).toNat)
 case atStart=>exact⟨0,_,rfl,by omega,rfl,a' _ _,bq.out⟩
 case round=>
 obtain⟨j,W,rfl,cr,rfl,zR,tN⟩:=hrel;by_cases nD:j<n
 ·have AI:(j:Int)<(n:Int):=(by omega);obtain⟨m,Db⟩:∃m,ms[j]?=some m:=⟨_,l8 (by rw[bf.out];exact nD)⟩;have bM:=aq (hm.out m (GD Db));obtain⟨b,o,jr,ca,rfl,aD,aG,jL,lN,_⟩:=adv aO.out Db;have aN:=bP zR.out aD;have aL:=bP zR.out aG;have aI:=bP zR.out jL;have c3:=bP zR.out lN;have aP:=aq bM.out.fits;clear aD aG jL lN Db;go_wp2_with fail;with_reducible refine (Vj m.n m.vs.length jr ca true (by rcases aP.out.2.2.2 with h|h<;>omega) (by have:=aP.out.2.1;omega) (aq aP.out.1) _).mono ?_
  rintro a1 bV ⟨rfl,er⟩;have Fm:=a' W (ai (#[I 3,I m.n,aa ⟨#[]⟩,ad jr m.vs.length ca]) FM);have cP:=aq ((zR.out.trans (Fm.mono zR.out.size)).trans (er.mono (dB zR.out.size Fm.size)));have eF:=aq (aU (aU tN.out Fm) er);clear er Fm aN aL aI c3;go_wp2_with fail;go_round<;>first|exact⟨j+1,_,rfl,by omega,by go_num,cP.out,eF.out⟩|(simp[intOf]<;>omega)
 ·obtain rfl:j=n:=(by omega);have AM:af ((W.alloc (ai (madeCells #[I 0,I 0] 198) mf)).heap[W.heap.size]?=some (.cells (madeCells #[I 0,I 0] 198) mf)):=cd _ _;have dk:=aq (zR.out.trans ((a' W (ai (madeCells #[I 0,I 0] 198) mf)).mono zR.out.size));have kP:=aq (aU tN.out (a' W (ai (madeCells #[I 0,I 0] 198) mf)));have yp:af (w.heap.size<W.heap.size):=lt_of_heap tN.out;go_wp2_with fail;generalize W.alloc (.cells (madeCells #[I 0,I 0] 198) mf)=dt at AM dk kP⊢;obtain⟨V,lg⟩:=ar W.heap.size;rw[lg] at AM yp⊢;have IC:af (V≤dt.heap.size):=tn (lt_of_heap AM.out);clear lg zR tN
  go_loopw [39] (fun i wr=>∃(k:Nat) (X:aeo) (cs:ajv),X=wr∧k≤99∧i=I k∧af (ao w w X)∧af (X.heap[w.heap.size]?=some qH)∧af (an X V cs mf)∧cs.size=198) (fun i _=>99 -(intOf i).toNat)
  case atStart=>exact⟨0,_,_,rfl,by omega,rfl,dk.out,kP.out,AM.out,by rw[Hb]⟩
  case round=>
  obtain⟨k,X,cs,rfl,ax,rfl,oA,P5,Dc,gm⟩:=hrel;by_cases mg:k<99
  ·have ou:(k:Int)<99:=(by omega);obtain⟨v0,aD⟩:∃v,cs[k *2]?=some v:=⟨_,J7 (by omega)⟩;obtain⟨v1,aG⟩:∃v,cs[k *2+1]?=some v:=⟨_,J7 (by omega)⟩;have aN:=cell_of Dc.out aD;have aL:=cell_of Dc.out aG;have f0:=cR Dc.out;have lb:af ((((X.setCell (aj V (k *2)) (I 0)).setCell (aj V (k *2+1)) (I 1))).heap[V]?=some (.cells ((cs.setIfInBounds (k *2) (I 0)).setIfInBounds (k *2+1) (I 1)) mf)):=dL _ (dL _ Dc.out);have iQ:af (aQ (fun b=>b≠V) X ((X.setCell (aj V (k *2)) (I 0)).setCell (aj V (k *2+1)) (I 1))):=(aQ.ne _).trans (aQ.ne _);clear aD aG;go_wp2_with fail;go_round<;>first|exact⟨k+1,_,_,rfl,by omega,by go_num,iQ.out.aZ oA.out (tn yp.out) oA.out.size,iQ.out.get (wM yp.out) P5.out,lb.out,by simp[gm]⟩|(simp[intOf]<;>omega)
  ·obtain rfl:k=99:=(by omega);go_wp2_with fail;have mX:af ((X.alloc (ai (q6 ew dr dr) dz)).heap[X.heap.size]?=some (.cells (q6 ew dr dr) dz)):=cd _ _;have dX:=aq (oA.out.trans ((a' X (ai (q6 ew dr dr) dz)).mono oA.out.size));have zh:=aq (aU P5.out (a' X (ai (q6 ew dr dr) dz)));have LD:af (w.heap.size<X.heap.size):=lt_of_heap P5.out;change Code.wp _ _ _ _ (X.alloc (ai (q6 ew dr dr) dz));generalize X.alloc (.cells (q6 ew dr dr) dz)=yx at mX dX zh⊢;obtain⟨F,hF⟩:=ar X.heap.size;rw[hF] at mX LD⊢;clear hF oA P5 Dc gm dk kP AM IC aax aqg;have r9:af (wT w F ms 0 (fun _=>False) dr [] yx):=⟨dX.out,zh.out,mX.out,FG _ _ _ _,trivial,fun b h=>h.elim,LD.out⟩;clear dX zh mX LD
   go_loopw [53] (fun i wr=>∃(k:Nat) (Y:aeo) (R:afp) (e5:ada) (xs:aev),Y=wr∧k≤j∧i=I k∧af (wT w F ms k R e5 xs Y)) (fun i _=>j -(intOf i).toNat)
   case atStart=>exact⟨0,_,_,_,_,rfl,by omega,rfl,r9.out⟩
   case round=>
   obtain⟨k,Y,R,e5,xs,rfl,Oy,rfl,b7⟩:=hrel;clear r9;by_cases oO:k<j
   ·have ou:(k:Int)<(j:Int):=(by omega);obtain⟨m,Db⟩:∃m,ms[k]?=some m:=⟨_,l8 (by rw[bf.out];exact oO)⟩;have bM:=aq (hm.out m (GD Db));obtain⟨b,o,jr,ca,rfl,aD,aG,jL,lN,tJ⟩:=adv aO.out Db;have aN:=bP b7.out.aZ aD;have aL:=bP b7.out.aZ aG;have aI:=bP b7.out.aZ jL;have c3:=bP b7.out.aZ lN;have aqh:=aq tJ;have aqi:=aq Db;clear aD aG jL lN tJ Db;have aqj:=aq bM.out.fits;obtain⟨vs,C7⟩:=ar m.vs;obtain⟨cL,fv⟩:=ar vs.length;have P6:=aq C7;have fQ:=aq fv;have ax0:cL≤6:=(by rw[←fv,←C7];exact aqj.out.2.1);have aqk:∀Z:aeo,(Instr.makeSlice 349 (I (cL:Int)) (I (cL:Int))).run Tryz.prog Z=.ok (ag Z.heap.size 0 cL cL) (Z.alloc (ai (madeCells #[I 0,I 0] (cL *2)) mf)):=fun Z=>AF _ _ _ 2 16 LN PS cL (by omega) (by omega) Z;rw[C7,fv] at c3;clear C7 fv;have P7:=aq (cd Y (ai (#[I 3,I m.n,aa ⟨#[]⟩,ad jr cL ca]) FM));have Fu:=aq (a' Y (ai (#[I 3,I m.n,aa ⟨#[]⟩,ad jr cL ca]) FM));go_wp2_with fail;change Code.wp _ _ _ _ ((Y.alloc (ai (#[I 3,I m.n,aa ⟨#[]⟩,ad jr cL ca]) FM)).alloc (ai (madeCells #[I 0,I 0] (cL *2)) mf));have gK:=pz Y (ai (#[I 3,I m.n,aa ⟨#[]⟩,ad jr cL ca]) FM);generalize Y.alloc (.cells #[I 3,I m.n,aa ⟨#[]⟩,ad jr cL ca] FM)=tV at P7 Fu gK⊢;have Bp:af (vk tV.heap.size vs 0 (tV.alloc (ai (madeCells #[I 0,I 0] (cL *2)) mf))):=⟨_,cd _ _,by rw[Hb,fQ.out],fun i v h _=>absurd h (nB _)⟩;have cP:=aq (Fu.out.trans ((a' tV (ai (madeCells #[I 0,I 0] (cL *2)) mf)).mono Fu.out.size));have Vk:=aq (aU P7.out (a' tV (ai (madeCells #[I 0,I 0] (cL *2)) mf)));have P8:af (Y.heap.size<tV.heap.size):=lt_of_heap P7.out;generalize tV.alloc (.cells (madeCells #[I 0,I 0] (cL *2)) mf)=ax1 at Bp cP Vk⊢;rw[gK] at Bp P8;obtain⟨yy,adz⟩:=ar (Y.heap.size+1);rw[adz] at Bp P8⊢;clear adz P7 Fu aqk aN aL aI c3 gK
    go_loopw [64] (fun i wr=>∃(a7:Nat) (oB:aeo),oB=wr∧a7≤cL∧i=I a7∧af (vk yy vs a7 oB)∧af (ao Y Y oB)∧af (an oB Y.heap.size (#[I 3,I m.n,aa ⟨#[]⟩,ad jr cL ca]) FM)) (fun i _=>cL -(intOf i).toNat)
    case atStart=>exact⟨0,_,rfl,by omega,rfl,Bp.out,cP.out,Vk.out⟩
    case round=>
    obtain⟨a7,oB,rfl,fT,rfl,Dc,L6,Dd⟩:=hrel;clear Bp cP Vk;by_cases ob:a7<cL
    ·have ax2:(a7:Int)<(cL:Int):=(by omega);obtain⟨v,aS⟩:∃v,vs[a7]?=some v:=⟨_,l8 (by rw[fQ.out];exact ob)⟩;have adA:=bM.out.v v (by rw[P6.out];exact GD aS);have Vl:=aqh.out;rw[P6.out] at Vl;obtain⟨cE,dY,a,bo,cO,aI,rfl,rfl,aC,aE,fJ⟩:=args_at Vl aS;have yg:=aq (b7.out.aZ.trans (L6.out.mono b7.out.aZ.size));have d0:=bP yg.out aC;have d1:=aq (bP yg.out aE);have d2:=aq (bP yg.out fJ);have aql:=aq adA;have aqm:=aq aS;clear aC aE fJ Vl aS adA;go_wp2_with fail;with_reducible refine (apt bo cO aI v aql.out _ oB d1.out d2.out).mono ?_
     rintro ch dp ⟨rfl,eA⟩;have nE:=aq (Dc.out.below eA);obtain⟨gG,⟨u0,gZ⟩,⟨u1,fM⟩,f0⟩:=nE.out.at (j:=a7) (by rw[fQ.out];exact ob);have dk:=aq (L6.out.trans (eA.mono L6.out.size));have ly:=aq (aU Dd.out eA);have uM:=aq (nE.out.put aqm.out);have xF:af (aQ (fun b=>b≠yy) dp ((dp.setCell (aj yy (a7 *2)) (I v)).setCell (aj yy (a7 *2+1)) (I 1))):=(aQ.ne _).trans (aQ.ne _);clear d0 eA;go_wp2_with fail;have e4:=aq (xF.out.aZ dk.out (tn P8.out) dk.out.size);have kf:=aq (xF.out.get (wM P8.out) ly.out);go_round
     ·(repeat apply Exists.intro)
      exact⟨⟨a7+1,_,rfl,by omega,by go_num,uM.out.below (a' _ _),e4.out.trans ((a' _ _).mono e4.out.size),aU kf.out (a' _ _)⟩,rfl⟩
     ·(simp[intOf]<;>omega)
    ·obtain rfl:a7=cL:=(by omega);have ER:=aq (vk.done (by rw[fQ.out];exact Dc.out));obtain⟨d0,d1,d2,d3⟩:ak oB Y.heap.size 0 (I 3)∧ak oB Y.heap.size 1 (I m.n)∧ak oB Y.heap.size 2 (aa ⟨#[]⟩)∧ak oB Y.heap.size 3 (ad jr a7 ca):=⟨cell_of Dd.out rfl,cell_of Dd.out rfl,cell_of Dd.out rfl,cell_of Dd.out rfl⟩;have qe:=lt_of_heap Dd.out;have P9:af (jZ oB.heap.size yy vs 0 (oB.alloc (ai (#[ad (some (aj yy 0)) a7 a7,I 0,I 1,I 0]) C9))):=⟨by show _=_;rw[fQ.out];exact cd _ _,aU ER.out (a' _ _),fun v aS=>bM.out.v v (by rw[P6.out];exact aS)⟩;have zw:af (∀Z,jZ oB.heap.size yy vs 0 Z→Calls Tryz.prog 259 #[ah oB.heap.size 0,I m.n] Z (adg oB.heap.size Z m.b)):=fun Z h=>apl _ yy m.n vs m.b Z (aq h) (by rw[←P6.out];exact bM.out.p) (aq bM.out.t);have ih:=aq (L6.out.trans ((a' oB (ai (#[ad (some (aj yy 0)) a7 a7,I 0,I 1,I 0]) C9)).mono L6.out.size));have De:af (Y.heap.size<oB.heap.size):=qe;have Vm:=aq (aU Dd.out (a' oB (ai (#[ad (some (aj yy 0)) a7 a7,I 0,I 1,I 0]) C9)));go_upto_region 34 with fail;generalize oB.alloc (.cells #[ag yy 0 a7 a7,I 0,I 1,I 0] C9)=vl at P9 ih Vm⊢;obtain⟨T,eS⟩:=ar oB.heap.size;rw[eS] at P9 zw De⊢;clear eS d0 d1 d2 d3 qe ER Dd;have bj:ak vl F 9 e5:=cell_of (i:=9) (aU b7.out.f ih.out) rfl;have dy:ak vl Y.heap.size 1 (I m.n):=cell_of (i:=1) Vm.out rfl;obtain⟨i0,hi,dE,dP,dq⟩:=info_parts aaG;have bZ:=aq (And.intro hi (And.intro dE (And.intro dP dq)));clear hi dE dP dq;have NP:xs.length=k *11:=b7.out.own.1;have kK:k<6:=(by omega);have P4:e5.ownBlock≠some F:=(by intro e;obtain⟨_,_,cur,hc⟩:=o8 b7.out.own e;exact lL hc b7.out.f (by decide) rfl);have key:∀cA,aQ (fun b=>b≠T) vl cA→ak cA F 9 e5∧ak cA Y.heap.size 1 (I m.n):=fun cA ax=>⟨cell_of (i:=9) (ax.get (by have:=lt_of_heap b7.out.f;have:=De.out;omega) (aU b7.out.f ih.out)) rfl,cell_of (i:=1) (ax.get (wM De.out) Vm.out) rfl⟩;have adB:∀cA o5 bt:aeo,aQ (fun b=>b≠T) vl cA→ao cA cA o5→o5.grownBy bt e5.ownBlock→ak bt F 9 e5∧bt.frozen? ⟨F,9,none⟩=false:=(by intro cA o5 bt ax ay ba;have bk:=aU (ax.get (by have:=lt_of_heap b7.out.f;have:=De.out;omega) (aU b7.out.f ih.out)) ay;have b9:=(ba.block F (lt_of_heap bk) (gJ P4)).trans bk;exact⟨cell_of (i:=9) b9 rfl,cR b9 9⟩);have adC:=aq key;have adD:=aq adB;have ax3:=b7.out.aZ.size;have adE:=ih.out.size;clear key adB P4
     go_region_law (first|(refine Cr _ (by rfl) _ _ _ (by rfl) w.heap.size eQ i0 wy 11 120 OQ bZ.out.1 bZ.out.2.1 bZ.out.2.2.1 bZ.out.2.2.2 rfl (by omega) e5 k xs (by rfl) (e9 Bn.out (by first|exact Below.refl _ _|exact (Below.refl _ _).drew)) ⟨G,0,none⟩ 1 1 news (by rfl) (by omega) (adF.out _ (by first|exact Below.refl _ _|exact (Below.refl _ _).drew)) EP (by omega) (by unfold maxLen;omega) (by omega) (by first|omega|(simp;omega)) _ rfl ?_;intro dh hg bt cI dO eJ hV;obtain⟨bW,cj⟩:=adD.out _ _ _ kf.out (by first|exact Below.refl _ _|exact (Below.refl _ _).drew) dO)|(rw[a8 (by rfl)];go_simp;go_at_call 259;with_reducible refine (zw.out _ (by first|exact P9.out|exact P9.out.below ((Below.refl _ _).drew))).mono ?_;rintro gw cA ⟨⟨G,rfl,iF⟩,⟨lF,eU,a2,tK⟩,s8⟩;have kf:=aq (show aQ (fun b=>b≠T) vl cA from (by first|exact s8|exact aQ.trans (.dI ((Below.refl _ _).drew)) s8));obtain⟨Ub,pn⟩:=adC.out _ kf.out;obtain⟨news,gF,K0,EP,Ka⟩:=aqc iF;have adF:=aq K0;have adG:=aq Ka;have yh:=aq tK;have Bn:=aq (mF (e9 b7.out.own ih.out) kf.out (fun b ay=>by have:=(o8 b7.out.own ay).2.1;have:=De.out;omega));have ax4:=kf.out.size;clear iF K0 Ka tK s8)|fail)
     all_goals
      have x1:ao Y Y cA:=ih.out.trans (kf.out.below Y.heap.size adE fun b ay=>by have:=De.out;omega);have yq:=aq (b7.out.push (m:=m) aqi.out x1 (by first|exact Below.refl _ _|exact (Below.refl _ _).drew) (adG.out.mono fun b _ ay=>by first|exact dB adE ay) cI dO (eJ.imp id fun h=>by rw[h];exact bx _));have qM:af ((bt.setCell (aj F 9) (ag dh 0 (k+1) hg)).heap[T]?=some (.cells #[ag lF 0 eU eU,I a2,I 1,I 0] C9)):=(tb (by show T≠F;have:=lt_of_heap b7.out.f;have:=De.out;omega)).trans ((dO.block T (by first|exact lt_of_heap yh.out) (fun e=>by have:=(o8 b7.out.own e.symm).2.1;have:=De.out;omega)).trans yh.out);clear cI dO eJ hV bW cj x1 adC adD adG adF Bn yh bZ NP bj dy Ub pn;generalize bt.setCell (aj F 9) (ad (some (aj dh 0)) (k+1) hg)=gh at yq qM⊢;have iE:k+1≤ms.length:=(by rw[bf.out];omega);have hlen:(ie (ms.take (k+1))).len=k+1:=(by rw[L5,kj,xH iE]);have fV:(ie (ms.take (k+1))).count=k+1:=(by rw[adu,kj,xH iE]);have adH:af (Calls Tryz.prog 79 #[.agg #[I ew.k,I ew.a.1,I ew.a.2,I ew.b.1,I ew.b.2,I ew.c.1,I ew.c.2,I ew.r,dr,ag dh 0 (k+1) hg]] gh fun e w'=>e=ab (I ((k+1+1:Nat):Int))∧ao gh gh w'):=(by have h:=HA (fun b=>w.heap.size<b) ew (ie (ms.take (k+1))) (by rw[fV];omega) none 0 0 (some (aj dh 0)) hg gh (aq (yq.out.ady iE (by omega)));rw[hlen,fV] at h;exact h);obtain⟨z0,z1,z2,z3,z4,z5,hZ,hO,ib,z9⟩:=dZ yq.out.f;have t3:=cell_of (i:=3) qM.out rfl;clear iE hlen fV;go_wp2_with fail;with_reducible refine adH.out.mono ?_
      rintro tk ki ⟨rfl,wU⟩;have qN:=aq (yq.out.below wU);clear wU z0 z1 z2 z3 z4 z5 hZ hO ib z9 t3 adH;go_wp2_with fail;go_round
      ·(repeat apply Exists.intro)
       exact⟨⟨k+1,_,_,_,_,rfl,by omega,by go_num,qN.out⟩,rfl⟩
      ·(simp[intOf]<;>omega)
   ·obtain rfl:k=j:=(by omega);obtain⟨pp,cp,aqn,ek⟩:=b7.out.fin bf.out aA;subst aqn;have L7:=aq ek;obtain⟨z0,z1,z2,z3,z4,z5,hZ,hO,ib,z9⟩:=dZ b7.out.f;obtain⟨gZ,fM,kO,p5,tc,td,p6,uG,uH,lC⟩:=dZ b7.out.r;have f0:=cR b7.out.r;have ax5:=aq (cd w qH);clear ek;go_wp2_with fail;refine qi (P:=bodyPost _ _ _ _ _) (ke ew dr (ad pp (ie ms).len cp)) b7.out.r rfl fun et g1 g2=>?_;exact dC (l6 rfl _ _ w.heap.size _ _ _ _ rfl g1 tz rfl (by kernel_rfl)) rfl ⟨g2.aZ b7.out.aZ (bx _) b7.out.aZ.size,pp,cp,rfl,(L7.out.keep (g2.mono fun b _ ay=>by omega)).mono fun b _ ay=>tn ay⟩
end c4
namespace c4
open dH
open _root_.Go.Proofs.YtfldplmgkeiimaaGreatDoor.Fr (B1 yV Gw pX vN nv sN pW)
open bS (eg lV)
variable{v:Int}
theorem aqo(h:0≤v∧v≤8):nv 1 (v *1000000)=true:=by rcases (show v=0∨v=1∨v=2∨v=3∨v=4∨v=5∨v=6∨v=7∨v=8 by omega) with rfl|rfl|rfl|rfl|rfl|rfl|rfl|rfl|rfl<;>decide
theorem aqp(h:0≤v∧v≤8):RL v 1 1=(v *10000000,0):=by rcases (show v=0∨v=1∨v=2∨v=3∨v=4∨v=5∨v=6∨v=7∨v=8 by omega) with rfl|rfl|rfl|rfl|rfl|rfl|rfl|rfl|rfl<;>decide
theorem aqq(h:0≤v∧v≤8)(vars:List (Int×Int)):B1 vars [(1,v *1000000)]=(v,1,0):=by
 have hm:=adj h;have hs:Gw vars [] 1 (v *1000000)=([(v,1)],0):=by simp[Gw,aqo h,vN,Fr.pX,hm]
 simp[B1,yV,hs,sN]
theorem adI(vars:List (Int×Int)):∀vs:List Int,(∀v∈vs,0≤v∧v≤8)→GG vars (vs.map fun v=>[(1,v *1000000)])=.ok (vs.map fun v=>(v,1))
 |[],_=>rfl
 |v::l,h=>by have av:=aqq (h v (by simp)) vars;have az:=adI vars l fun u hu=>h u (by simp[hu]);simp only[oH,GG,av,az];simp
theorem Vn(h:0≤v∧v≤8)(l:List (Int×Int)):gY.len ⟨(v,1)::l,0⟩ 1=(v *10000000,⟨l,0⟩):=by simp[gY.len,gY.next,gY.fail,aqp h]
theorem Vo(h:0≤v∧v≤8)(l:List (Int×Int)):gY.half ⟨(v,1)::l,0⟩ 1=(v *5000000,⟨l,0⟩):=by
 have av:¬v *10000000<0:=by omega
 have az:(v *10000000).tdiv 2=v *5000000:=by rw[Aq (by omega)];omega
 have aF:(v *10000000).tmod 2=0:=by rw[y7 (by omega)];omega
 simp[gY.half,Vn h,av,az,aF]
theorem adJ{x y:Int}(hx:0≤x∧x≤8)(hy:0≤y∧y≤8)(l:List (Int×Int)):gY.kH ⟨(x,1)::(y,1)::l,0⟩ 1=((x *10000000,y *10000000),⟨l,0⟩):=by simp[gY.kH,Vn hx,Vn hy]
theorem aqr{m:hE}(h:m.e7):DV m.n 1 (m.vs.map fun v=>(v,1))=(.cons true m.b .nil .nil,0):=by
 obtain⟨n,vs,b⟩:=m;have aS:=h.v;have bB:=h.t;rcases h.p with ⟨rfl,d,x,y,rfl,av,rfl⟩|⟨rfl,d,e,x,y,rfl,av,az,rfl⟩
 ·have cE:=aS d (by simp);have bo:=aS x (by simp);have fk:=aS y (by simp);have hp:0<d *5000000:=(by omega);simp only at bB;simp[DV,gY.next,gY.RM,gY.JK,Vo cE,adJ bo fk,hp,gX,bB,bc.one]
 ·have cE:=aS d (by simp);have bo:=aS x (by simp);have fk:=aS y (by simp);have B9:=aS e (by simp);have hp:0<d *5000000:=(by omega);have aH:0<e *5000000:=(by omega);have tK:po {h1 with q:=0} ⟨j8 [xl (x *10000000,y *10000000) (d *5000000) (e *5000000)],.nil⟩=some ⟨j8 [xl (x *10000000,y *10000000) (d *5000000) (e *5000000)],.nil⟩:=bB;simp[DV,gY.next,gY.RM,gY.JK,Vo cE,Vo B9,adJ bo fk,hp,aH,gX,tK,bc.one]
theorem adK:∀(l:List hE) (vars:List (Int×Int)) (p:bc),(∀m∈l,hE.e7 m)→p.count+l.length≤800→Ag 1 (l.map hE.hL) vars p=.ok (p.append (ie l))
 |[],_,p,_,_=>by simp[Ag,ie,bc.append_nil]
 |m::l,vars,p,h,hc=>by have hm:=h m (by simp);have av:=adI vars m.vs hm.v;have az:=aqr hm;have fV:(p.append (.cons true m.b .nil .nil)).count=p.count+1:=(by rw[bc.count_append];rfl);have cT:=adK l vars (p.append (.cons true m.b .nil .nil)) (fun a ha=>h a (by simp[ha])) (by rw[fV];simp at hc;omega);simp only[oH,Ag,hE.hL,av,az];rw[aR (by decide),a8 trivial,aR (by simp),aR (by rw[fV];simp at hc;omega)];have e:(p.append (.cons true m.b .nil .nil)).append (ie l)=p.append (ie (m::l)):=(by rw[bc.append_assoc];rfl);rw[←e];exact cT
theorem Sd(l:List hE)(h:∀m∈l,hE.e7 m)(aA:l.length≤6):j9 [84] [] 1 [⟨[84],l.map hE.hL⟩]=.ok (⟨ew,ie l⟩,0):=by
 have hf:((l.map hE.hL).all RN)=true:=by rw[List.all_map,SI];intro m hm;have:=(h m hm).fits;simp[RN,hE.hL,this.1]
 have hs:Nt (l.map hE.hL) [] 1=.ok ⟨ew,ie l⟩:=by unfold Nt;rw[aR (by rw[hf,e6];simp;omega),adK l _ .nil h (by show 0+l.length≤800;omega)];rfl
 unfold j9;rw[aR (by decide)];simp[RO,XL,JM,hs]
end c4
