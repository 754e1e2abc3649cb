/- Lemmas. -/
import Derived.Test.YtfldplmgkeiimaaGreatDoorR26
import Derived.Lib.ConvBytes
set_option linter.all false
set_option maxRecDepth 100000
set_option maxHeartbeats 12800000
namespace Go.Proofs.YtfldplmgkeiimaaGreatDoor
abbrev Ha:=@Proofs.Tryz.func223
abbrev Hb:=@Proofs.Tryz.ntmps223
abbrev vU:=@Proofs.Tryz.func224
abbrev vV:=@Proofs.Tryz.ntmps224
abbrev Ew:=@List.mem_cons_of_mem
abbrev KC:=@Proofs.Tryz.results180
abbrev Ex:=@Proofs.Tryz.results181
namespace iS
open Go.RowKit kR ig n1 Mem pN ct
def KD:Option (ByteArray×ByteArray)→Ending→Prop
 |none,e=>e=ab (.tuple #[aa ⟨#[]⟩,aa ⟨#[]⟩,U false])
 |some x,e=>e=ab (.tuple #[aa x.1,aa x.2,U true])
theorem aa7(s:au):∃o:Option (ByteArray×ByteArray),u' s=o.map fun x=>(x.1.data.toList,x.2.data.toList):=by
 unfold u';split
 ·exact⟨none,rfl⟩
 ·exact⟨some (⟨(s.take (bn s)).toArray⟩,⟨(s.drop (bn s)).toArray⟩),rfl⟩
theorem JR(S:Ua)(hs:S.size≤1000000000)(o:Option (ByteArray×ByteArray))(bm:af (u' S.data.toList=o.map fun x=>(x.1.data.toList,x.2.data.toList)))(w:aeo):
  Calls Tryz.prog 220 #[aa S] w fun e w'=>KD o e∧sh w w':=by
 have aA:=bm.out;unfold u' at aA;obtain⟨n,hn⟩:=ar (bn S.data.toList);have nS:=aq hn
 have wS:af (n=0→o=none):=by
  intro h;rw[bb (.inl (by rw[hn];exact h))] at aA;cases o with
  |none=>rfl
  |some x=>cases aA
 have oV:af (∀h:0<S.size,S[0]=48→o=none):=by
  intro hp h;rw[bb (.inr (by rw[zl S hp];exact h))] at aA;cases o with
  |none=>rfl
  |some x=>cases aA
 have uS:af (n≠0→∀h:0<S.size,S[0]≠48→o=some (S.extract 0 n,S.extract n S.size)):=by
  intro aS hp h;rw[aW (by rintro (av|av);exact aS (by rw[←hn];exact av);exact h (by rw[zl S hp] at av;exact av))] at aA;cases o with
  |none=>cases aA
  |some x=>
   obtain⟨a,b⟩:=x;have az:=q5 aA;simp only[gh] at az;have ha:a=S.extract 0 n:=hY (by rw[BR,←hn];exact az.1.symm);have ax:b=S.extract n S.size:=hY (by rw[jP,←hn];exact az.2.symm);rw[ha,ax]
 clear aA hn bm;go_enter Tryz.func220,Tryz.ntmps220;go_wp2_with fail
 go_loop [5] (fun i=>∃k:Nat,af (k≤bn S.data.toList)∧i=I (k:Int)) (fun i=>S.size -(intOf i).toNat)
 case atStart=>exact⟨0,dO _,rfl⟩
 case round=>
  obtain⟨k,cQ,rfl⟩:=hrel;have j':k≤S.size:=(by have av:=qd S.data.toList;have:=cQ.out;rw[cb] at av;omega);by_cases bR:k<S.size
  ·have JI:k<S.data.toList.length:=(by rw[cb];exact bR);have gU:(k:Int)<(S.size:Int):=(by omega);by_cases hd:48≤S[k].toNat∧S[k].toNat≤57
   ·have bd:af (k+1≤bn S.data.toList):=HV cQ.out JI (by rw[nG S k bR];exact (ph _).2 hd);obtain⟨ih,gD⟩:=hd;go_wp2_with fail;go_round
    case rel=>exact⟨k+1,bd,by go_num⟩
    case measure=>simp[intOf];omega
   ·have bd:af (k=n):=(by show _=_;rw[←nS.out];exact (CI cQ.out JI (by rw[nG S k bR];exact (zh _).2 (by omega))).symm);by_cases av:48≤S[k].toNat
    ·have az:¬S[k].toNat≤57:=fun h=>hd ⟨av,h⟩;obtain rfl:k=n:=bd.out;clear bd cQ;by_cases aS:k=0
     ·have a':=aq (wS.out aS);have bJ:((k:Int)==0)=true:=(by simp;omega);clear aS;go_wp2_with fail;go_ret3;rw[a'.out];exact⟨rfl,0,rfl⟩
     ·have bJ:((k:Int)==0)=false:=(by simp;omega);have hp:0<S.size:=(by omega);obtain⟨c,hc⟩:=ar (S[0]);by_cases h0:c=48
      ·have a':=aq (oV.out hp (hc.trans h0));subst h0;have aD:((48:UInt8).toNat:Int)=48:=rfl;clear aS;go_wp2_with fail;go_ret3;rw[a'.out];exact⟨rfl,0,rfl⟩
      ·have a':=aq (uS.out aS hp (by rw[hc];exact h0));have aD:((c.toNat:Int)==48)=false:=Gq (k:=48) (by decide) h0;clear aS h0;go_wp2_with fail;go_region
       all_goals
        go_wp2_with fail;go_ret3;rw[a'.out];exact⟨rfl,1,rfl⟩
    ·skip
     obtain rfl:k=n:=bd.out;clear bd cQ;by_cases aS:k=0
     ·have a':=aq (wS.out aS);have bJ:((k:Int)==0)=true:=(by simp;omega);clear aS;go_wp2_with fail;go_ret3;rw[a'.out];exact⟨rfl,0,rfl⟩
     ·have bJ:((k:Int)==0)=false:=(by simp;omega);have hp:0<S.size:=(by omega);obtain⟨c,hc⟩:=ar (S[0]);by_cases h0:c=48
      ·have a':=aq (oV.out hp (hc.trans h0));subst h0;have aD:((48:UInt8).toNat:Int)=48:=rfl;clear aS;go_wp2_with fail;go_ret3;rw[a'.out];exact⟨rfl,0,rfl⟩
      ·have a':=aq (uS.out aS hp (by rw[hc];exact h0));have aD:((c.toNat:Int)==48)=false:=Gq (k:=48) (by decide) h0;clear aS h0;go_wp2_with fail;go_region
       all_goals
        go_wp2_with fail;go_ret3;rw[a'.out];exact⟨rfl,1,rfl⟩
  ·have bd:af (k=n):=(by show _=_;rw[←nS.out];have av:=qd S.data.toList;have:=cQ.out;rw[cb] at av;omega);have gU:¬((k:Int)<(S.size:Int)):=(by omega);obtain rfl:k=n:=bd.out;clear bd cQ;by_cases aS:k=0
   ·have a':=aq (wS.out aS);have bJ:((k:Int)==0)=true:=(by simp;omega);clear aS;go_wp2_with fail;go_ret3;rw[a'.out];exact⟨rfl,0,rfl⟩
   ·have bJ:((k:Int)==0)=false:=(by simp;omega);have hp:0<S.size:=(by omega);obtain⟨c,hc⟩:=ar (S[0]);by_cases h0:c=48
    ·have a':=aq (oV.out hp (hc.trans h0));subst h0;have aD:((48:UInt8).toNat:Int)=48:=rfl;clear aS;go_wp2_with fail;go_ret3;rw[a'.out];exact⟨rfl,0,rfl⟩
    ·have a':=aq (uS.out aS hp (by rw[hc];exact h0));have aD:((c.toNat:Int)==48)=false:=Gq (k:=48) (by decide) h0;clear aS h0;go_wp2_with fail;go_region
     all_goals
      go_wp2_with fail;go_ret3;rw[a'.out];exact⟨rfl,1,rfl⟩
theorem amF(S:Ua)(n:Int)(hn:af (qu S.data.toList=n))(w:aeo):
  Calls Tryz.prog 223 #[aa S] w fun e w'=>e=ab (I n)∧w=w':=by
 have aA:=hn.out;unfold qu at aA;by_cases b1:S.data.toList=[49]
 ·rw[bb b1] at aA;have a7:(S.toList==[49])=true:=(by rw[eG];exact eL b1);subst aA;clear hn b1;go_enter Ha,Hb;go_wp2_with fail;go_ret;exact⟨rfl,rfl⟩
 ·rw[aW b1] at aA;have a7:(S.toList==[49])=false:=(by rw[eG];exact ey b1);by_cases cw:S.data.toList=[52]
  ·rw[bb cw] at aA;have bf:(S.toList==[52])=true:=(by rw[eG];exact eL cw);subst aA;clear hn b1 cw;go_enter Ha,Hb;go_wp2_with fail;go_ret;exact⟨rfl,rfl⟩
  ·rw[aW cw] at aA;have bf:(S.toList==[52])=false:=(by rw[eG];exact ey cw);by_cases ei:S.data.toList=[55]
   ·rw[bb ei] at aA;have cM:(S.toList==[55])=true:=(by rw[eG];exact eL ei);subst aA;clear hn b1 cw ei;go_enter Ha,Hb;go_wp2_with fail;go_ret;exact⟨rfl,rfl⟩
   ·rw[aW ei] at aA;have cM:(S.toList==[55])=false:=(by rw[eG];exact ey ei);by_cases gZ:S.data.toList=[50,48]
    ·rw[bb gZ] at aA;have hO:(S.toList==[50,48])=true:=(by rw[eG];exact eL gZ);subst aA;clear hn b1 cw ei gZ;go_enter Ha,Hb;go_wp2_with fail;go_ret;exact⟨rfl,rfl⟩
    ·rw[aW gZ] at aA;have hO:(S.toList==[50,48])=false:=(by rw[eG];exact ey gZ);by_cases kO:S.data.toList=[50,49]
     ·rw[bb kO] at aA;have nN:(S.toList==[50,49])=true:=(by rw[eG];exact eL kO);subst aA;clear hn b1 cw ei gZ kO;go_enter Ha,Hb;go_wp2_with fail;go_ret;exact⟨rfl,rfl⟩
     ·rw[aW kO] at aA;have nN:(S.toList==[50,49])=false:=(by rw[eG];exact ey kO);subst aA;clear hn b1 cw ei gZ kO;go_enter Ha,Hb;go_wp2_with fail;go_ret;exact⟨rfl,rfl⟩
theorem amG(n:Int)(k:Nat)(p:Ja)(c:Nat)(b:Bool)(hn:n=1∨n=4∨n=7∨n=20∨n=21)(ay:k≤1100)(ax:af (oX n k=b))(w:aeo):
  Calls Tryz.prog 224 #[.agg #[I 3,I n,aa ⟨#[]⟩,ad p k c]] w fun e w'=>e=ab (U b)∧ao w w w':=by
 have hx:af (b=oX n k):=ax.out.symm;clear ax;have e7:∀o,af (ao w w (w.alloc o)):=fun o=>(Below.refl _ _).alloc (bx _) _;obtain rfl|rfl|rfl|rfl|rfl:=hn
 ·skip
  by_cases aS:k=4
  ·have bJ:((k:Int)==4)=true:=(by simp;omega);go_enter vU,vV;go_wp2_with fail;go_ret;refine⟨dD ?_,(e7 _).out⟩;rw[hx.out];simp[oX, *]
  ·have bJ:((k:Int)==4)=false:=(by simp;omega);by_cases av:k=5
   ·have bO:((k:Int)==5)=true:=(by simp;omega);go_enter vU,vV;go_wp2_with fail;go_ret;refine⟨dD ?_,(e7 _).out⟩;rw[hx.out];simp[oX, *]
   ·have bO:((k:Int)==5)=false:=(by simp;omega);go_enter vU,vV;go_wp2_with fail;go_ret;refine⟨dD ?_,(e7 _).out⟩;rw[hx.out];simp[oX, *]
 ·skip
  by_cases aS:k%2=1
  ·have bJ:((k:Int)%2==1)=true:=(by simp;omega);have amH:(Int.tmod (k:Int) 2==1)=true:=(by rw[By (by omega)];exact bJ);by_cases av:7≤k
   ·have bO:7≤(k:Int):=(by omega);have ba:(k:Int)≤1100:=(by omega);go_enter vU,vV;go_wp2_with fail;go_ret;refine⟨dD ?_,(e7 _).out⟩;rw[hx.out];simp[oX, *]
   ·have bO:¬7≤(k:Int):=(by omega);go_enter vU,vV;go_wp2_with fail;go_ret;refine⟨dD ?_,(e7 _).out⟩;rw[hx.out];simp[oX, *]
  ·have bJ:((k:Int)%2==1)=false:=(by simp;omega);have amH:(Int.tmod (k:Int) 2==1)=false:=(by rw[By (by omega)];exact bJ);go_enter vU,vV;go_wp2_with fail;go_ret;refine⟨dD ?_,(e7 _).out⟩;rw[hx.out];simp[oX, *]
 ·skip
  by_cases aS:k=6
  ·have bJ:((k:Int)==6)=true:=(by simp;omega);go_enter vU,vV;go_wp2_with fail;go_ret;refine⟨dD ?_,(e7 _).out⟩;rw[hx.out];simp[oX, *]
  ·have bJ:((k:Int)==6)=false:=(by simp;omega);go_enter vU,vV;go_wp2_with fail;go_ret;refine⟨dD ?_,(e7 _).out⟩;rw[hx.out];simp[oX, *]
 ·skip
  by_cases aS:k=7
  ·have bJ:((k:Int)==7)=true:=(by simp;omega);go_enter vU,vV;go_wp2_with fail;go_ret;refine⟨dD ?_,(e7 _).out⟩;rw[hx.out];simp[oX, *]
  ·have bJ:((k:Int)==7)=false:=(by simp;omega);go_enter vU,vV;go_wp2_with fail;go_ret;refine⟨dD ?_,(e7 _).out⟩;rw[hx.out];simp[oX, *]
 ·skip
  by_cases aS:k=6
  ·have bJ:((k:Int)==6)=true:=(by simp;omega);go_enter vU,vV;go_wp2_with fail;go_ret;refine⟨dD ?_,(e7 _).out⟩;rw[hx.out];simp[oX, *]
  ·have bJ:((k:Int)==6)=false:=(by simp;omega);go_enter vU,vV;go_wp2_with fail;go_ret;refine⟨dD ?_,(e7 _).out⟩;rw[hx.out];simp[oX, *]
theorem aa8:∀(l:au) (acc:Nat),(∀c∈l,fi c=true)→Lib.decFrom acc l=some (l.foldl (fun v c=>v *10+(c.toNat-48)) acc)
 |[],acc,_=>rfl
 |c::r,acc,h=>by have hc:=(ph _).1 (h c (by simp));unfold Lib.decFrom Lib.digitVal;rw[bb hc];exact aa8 r _ fun d hd=>h d (Ew _ hd)
theorem amI{l:au}(aS:l≠[])(h:∀c∈l,fi c=true):Lib.atoi l=some (val l:Int):=by
 cases l with
 |nil=>exact absurd rfl aS
 |cons b r=>
  have ax:=(ph _).1 (h b (by simp));have en:(b==45)=false:=(by rw[kS];rintro rfl;exact absurd ax (by decide));have fa:(b==43)=false:=(by rw[kS];rintro rfl;exact absurd ax (by decide));show (if (b==45)=true then (Lib.decNat r).map (fun (m:Nat)=>-(m:Int)) else if (b==43)=true then (Lib.decNat r).map (fun (m:Nat)=>(m:Int)) else (Lib.decNat (b::r)).map (fun (m:Nat)=>(m:Int)))=_;unfold Lib.decNat;rw[en,fa,List.isEmpty_cons,aW (by decide),aW (by decide),aW (by decide),aa8 _ _ h];rfl
variable{s d r:au}
theorem aa9(h:u' s=some (d,r)):d≠[]∧(∀c∈d,fi c=true)∧d.length≤s.length∧r.length≤s.length:=by
 unfold u' at h;split at h
 ·cases h
 ·rename_i hn;have az:=q5 h;simp only[gh] at az;obtain⟨rfl,rfl⟩:=az;have aC:=qd s;refine⟨?_,?_,?_,?_⟩
  ·intro bt;have cr:=fp List.length bt;rw[kU,tj] at cr;have c4:bn s≠0:=fun h=>hn (.inl h);omega
  ·intro c hc;obtain⟨i,hi,rfl⟩:=List.getElem_of_mem hc;rw[kU] at hi;rw[Mk];exact (x9 s).1 i (by omega) (by omega)
  ·rw[kU];omega
  ·rw[fH];omega
theorem amJ(D:Ua)(aS:D.data.toList≠[])(h:∀c∈D.data.toList,fi c=true)(hs:D.size≤18)(n:Int)(hn:(val D.data.toList:Int)=n)(w:aeo):
  Calls Tryz.prog 221 #[aa D] w fun e w'=>e=ab (.tuple #[I n,.nilIface])∧ao w w w':=by
 refine (Tryz.strconv_Atoi D _ hs (amI aS h) w).mono fun e w' ⟨he,t,bE⟩=>⟨by rw[he,hn],?_⟩;rw[bE];exact⟨rfl,rfl,rfl,by rw[Lib.bytesWorld_size];omega,fun k ay=>Lib.bytesWorld_at_old _ _ _ _ ay⟩
abbrev O5:Obj:=.cells #[I 0,I 0,aa ⟨#[]⟩,J 0] 259
def xO(b:eC)(kz:ada):Array Value:= #[I b.k,I b.n,aa ⟨b.t.toArray⟩,kz]
abbrev kA(b:eC)(kz:ada):Value:=.agg (xO b kz)
abbrev amK(b:eC)(kz:ada):Obj:=.cells (xO b kz) 259
variable{x w W:aeo}{b B:Nat}{v0 v1 v2 v3:ada}{t:aai}
theorem hb(h:an x b (#[v0,v1,v2,v3]) t):
  (ak x b 0 v0∧ak x b 1 v1∧ak x b 2 v2∧ak x b 3 v3)∧(x.frozen? ⟨b,0,none⟩=false∧x.frozen? ⟨b,1,none⟩=false∧x.frozen? ⟨b,2,none⟩=false∧x.frozen? ⟨b,3,none⟩=false):=by
 refine⟨⟨?_,?_,?_,?_⟩,?_,?_,?_,?_⟩<;>simp[World.cell?,World.frozen?,h]
def hW(w:aeo)(b:Nat)(x:eC)(kz:ada):World:=
 (((w.setCell (aj b 0) (I x.k)).setCell (aj b 1) (I x.n)).setCell (aj b 2) (aa ⟨x.t.toArray⟩)).setCell (aj b 3) kz
theorem amL(h:an x b (#[v0,v1,v2,v3]) t)(u:ada):(x.setCell (aj b 0) u).heap[b]?=some (.cells #[u,v1,v2,v3] t):=j9 h 0 u
theorem amM(h:an x b (#[v0,v1,v2,v3]) t)(u:ada):(x.setCell (aj b 1) u).heap[b]?=some (.cells #[v0,u,v2,v3] t):=j9 h 1 u
theorem amN(h:an x b (#[v0,v1,v2,v3]) t)(u:ada):(x.setCell (aj b 2) u).heap[b]?=some (.cells #[v0,v1,u,v3] t):=j9 h 2 u
theorem amO(h:an x b (#[v0,v1,v2,v3]) t)(u:ada):(x.setCell (aj b 3) u).heap[b]?=some (.cells #[v0,v1,v2,u] t):=j9 h 3 u
structure vW(w W:aeo):Prop where
 a:W.heap[w.heap.size]?=some O5
 b:ao w w W
theorem vW.below{ko:aeo}(h:vW w W)(ax:ao W W ko):vW w ko:=⟨aU h.a ax,h.b.trans (ax.mono h.b.size)⟩
theorem Ub(w:aeo):vW w (w.alloc O5):=⟨fJ w _,(Below.refl _ _).alloc (bx _) _⟩
theorem pJ(h:vW w W)(x:eC)(kz:ada):(hW W w.heap.size x kz).heap[w.heap.size]?=some (amK x kz)∧ao w w (hW W w.heap.size x kz):=
 ⟨amO (amN (amM (amL h.a _) _) _) _,(((h.b.setCell (bx _) _).setCell (bx _) _).setCell (bx _) _).setCell (bx _) _⟩
theorem Hc{cs:ajv}(h:an W b cs 259)(x:eC)(kz:ada):ky 259 W (hW W b x kz):=by have step:∀{V:aeo} {cs:ajv} (i:Nat) (u:ada),an V b cs 259→ky 259 V (V.setCell (aj b i) u)∧∃hV,(V.setCell (aj b i) u).heap[b]?=some (.cells hV 259):=fun i u aY=>⟨.set aY u,_,j9 aY i u⟩;obtain⟨bJ,_,aS⟩:=step 0 (I x.k) h;obtain⟨bO,_,av⟩:=step 1 (I x.n) aS;obtain⟨ba,_,az⟩:=step 2 (aa ⟨x.t.toArray⟩) av;obtain⟨p0,_,aC⟩:=step 3 kz az;exact ((bJ.trans bO).trans ba).trans p0
def Uc(res:Except Nat eC)(w:aeo)(e:Ending)(w':aeo):Prop:=Below w.heap.size w w'∧match res with
 |.ok b=>∃q k,e=ab (.tuple #[kA b (ad q b.args.length k),I 0])∧mi w.heap.size w' q b.args
 |.error n=>e=ab (.tuple #[kA ct.cu bN,I (n:Int)])
theorem Ud(l:au){c:UInt8}(hc:c≠0):decide (l.take 1=[c])=decide (l.headD 0=c):=by
 cases l with
 |nil=>rw[ey (by simp),ey (by simpa using hc.symm)]
 |cons a l=>simp
theorem amP(l:List (Int×Int))(i:Nat)(hi:i<l.length):(q7 l)[i *2]?=some (I l[i].1)∧(q7 l)[i *2+1]?=some (I l[i].2):=by
 induction l generalizing i with
 |nil=>exact absurd hi (my _)
 |cons o l cO=>
  have e:q7 (o::l)=[I o.1,I o.2] ++q7 l:=rfl;cases i with
  |zero=>rw[e];exact⟨rfl,rfl⟩
  |succ i=>
   have:=cO i (Aj hi);rw[e,show (i+1) *2=i *2+1+1 by omega,show i *2+1+1+1=(i *2+1)+1+1 by omega];simpa using this
theorem aba{v:ada}{l:List (Int×Int)}(h:w.ownsRow B 413 2 v l.length (q7 l)):∃p c,v=ad p l.length c∧oB B w p l:=by
 rcases h.2 with ⟨av,az⟩|⟨g,c,cur,av,az,aC,bt,cr,c4,ez⟩
 ·exact⟨none,0,by rw[av,az],fun aA=>absurd aA (by omega)⟩
 ·refine⟨_,c,av,fun aA=>⟨g,0,cur,rfl,az,aC,fun i hi=>?_⟩⟩;have key:∀j,j<l.length *2→cur[j]?=(q7 l)[j]?:=(fun j cd=>by rw[←ez,Eu cd,vw]);obtain⟨g1,g2⟩:=amP l i hi;rw[j7,key _ (by omega),key _ (by omega)];exact⟨g1,g2⟩
theorem amQ(S:Ua)(hs:S.size≤1000000000)(res:Except Nat eC)(hr:af (IH S.data.toList=res))(w:aeo):
  Calls Tryz.prog 180 #[aa S] w (Uc res w):=by
 have db:=aq hs;have aA:=hr.out;unfold IH at aA;obtain⟨o,bm⟩:=aa7 S.data.toList;rw[bm] at aA;have b6:=aq bm;clear hr hs;have aV:af (vW w (w.alloc (ai (#[I 0,I 0,aa ⟨#[]⟩,J 0]) 259))):=Ub w;go_enter Tryz.func180,Tryz.ntmps180;go_upto_region 1 with fail;generalize w.alloc (.cells #[I 0,I 0,aa ⟨#[]⟩,J 0] 259)=W at aV⊢;go_wp2_with fail;with_reducible refine (JR S db.out o b6 _).mono ?_
 rintro e b4 ⟨he,hd⟩;have eQ:=aq (aV.out.below (ld hd));clear hd aV;have aV:=eQ;clear eQ;cases o with
 |none=>
  have a':af (Except.error 3=res):=aA;unfold KD at he;simp only[] at he;subst he;clear aA bm b6;obtain⟨⟨aQ,aN,aJ,c3⟩,f0,f1,f2,f3⟩:=hb aV.out.a;have aO:=aq (pJ aV.out ct.cu bN);go_wp2_with fail;refine dU (w:=hW b4 w.heap.size ct.cu bN) (v:=.tuple #[kA ct.cu bN,I 3]) ?_ rfl ?_
  ·clear aQ aN aJ c3 f0 f1 f2 f3;generalize hW b4 w.heap.size ct.cu bN=e5 at aO⊢;obtain⟨⟨aQ,aN,aJ,c3⟩,_⟩:=hb aO.out.1;simp[results,KC,go_sem,aQ,aN,aJ,c3]<;>rfl
  ·rw[←a'.out];exact⟨aO.out.2,rfl⟩
 |some x=>
  obtain⟨D,R⟩:=x;unfold KD at he;simp only[] at he;subst he;obtain⟨q8,ih,gD,pH⟩:=aa9 bm;rw[cb,cb] at gD pH;have gD:D.size≤S.size:=gD;have pH:R.size≤S.size:=pH;simp only[yH] at aA;rw[cb] at aA;clear bm b6;by_cases az:2<D.size
  ·rw[bb (.inl az)] at aA;have a':af (Except.error 3=res):=aA;have T':(2:Int)<(D.size:Int):=(by omega);clear aA q8 ih gD pH az;obtain⟨⟨aQ,aN,aJ,c3⟩,f0,f1,f2,f3⟩:=hb aV.out.a;have aO:=aq (pJ aV.out ct.cu bN);go_wp2_with fail;refine dU (w:=hW b4 w.heap.size ct.cu bN) (v:=.tuple #[kA ct.cu bN,I 3]) ?_ rfl ?_
   ·clear aQ aN aJ c3 f0 f1 f2 f3;generalize hW b4 w.heap.size ct.cu bN=e5 at aO⊢;obtain⟨⟨aQ,aN,aJ,c3⟩,_⟩:=hb aO.out.1;simp[results,KC,go_sem,aQ,aN,aJ,c3]<;>rfl
   ·rw[←a'.out];exact⟨aO.out.2,rfl⟩
  ·have T':¬(2:Int)<(D.size:Int):=(by omega);have hz:af (decide (R.data.toList.take (⟨#[61]⟩:Ua).data.toList.length=(⟨#[61]⟩:Ua).data.toList)=decide (R.data.toList.headD 0=61)):=Ud _ (by decide);by_cases Ci:R.data.toList.headD 0=61
   ·rw[aW (by rintro (h|h);exact az h;exact h Ci)] at aA
    have At:0<R.size:=by
     rw[←cb];cases aR:R.data.toList with
     |nil=>rw[aR] at Ci;exact absurd Ci (by decide)
     |cons a b=>simp
    have c7:R.data.toList.drop 1=(R.extract 1 R.size).data.toList:=(jP R 1).symm;rw[c7] at aA;have tx:af ((R.extract 1 R.size).size≤maxLen):=(by show _≤_;rw[←cb,jP,fH,cb];have:=db.out;unfold maxLen;omega);obtain⟨⟨l,a,e⟩,hp⟩:=ar (wu.x' (R.extract 1 R.size).data.toList);have bT:=aq hp;rw[hp] at aA;simp only[] at aA;obtain⟨n,hn⟩:=ar (val D.data.toList:Int);have cF:=aq (And.intro q8 (And.intro ih (And.intro (show D.size≤18 by omega) hn)));have i7:(1:Int)≤(R.size:Int):=(by omega);rw[hn] at aA;have dn:=aq aA;rw[eL Ci] at hz;clear aA q8 ih gD pH az Ci c7 hp hn At;go_wp2_with fail;with_reducible refine (xq _ _ _ hz _).mono ?_
    rintro e dP ⟨rfl,rfl⟩;go_wp2_with fail;with_reducible refine (amJ D cF.out.1 cF.out.2.1 cF.out.2.2.1 n cF.out.2.2.2 _).mono ?_
    rintro e cW ⟨rfl,jE⟩;have Ue:=aq (aV.out.below jE);clear jE aV;go_wp2_with fail;with_reducible refine (ZQ (R.extract 1 R.size) tx.out _ l a e bT).mono ?_
    rintro h3 bI ⟨v,rfl,aY,dY⟩;obtain⟨p,c,rfl,KE⟩:=aba aY;have aV:=aq (Ue.out.below dY);have Uf:=aq (KE.mono Ue.out.b.size);clear dY aY KE Ue;by_cases he:e=0
    ·subst he;have a':af (Except.ok ⟨2,n,[],[l]⟩=res):=dn.out;clear dn;have xM:af (vW w (bI.alloc (ai (#[ad p l.length c]) 345))):=aV.out.below ((Below.refl _ _).alloc (bx _) _);have KB:af (mi w.heap.size (bI.alloc (ai (#[ad p l.length c]) 345)) (some (aj bI.heap.size 0)) [l]):=(by intro _;refine⟨bI.heap.size,0,_,rfl,aV.out.b.size,fJ bI _,fun i hi=>?_⟩;have aC:i=0:=(by simp at hi;omega);subst aC;exact⟨p,c,rfl,Uf.out.keep (T:=0) (.dW ((Below.refl _ _).alloc (bx _) _)) (by decide)⟩);have r6:=aq (Hc xM.out.a ⟨2,n,[],[l]⟩ (ag bI.heap.size 0 1 1));have aO:=aq (pJ xM.out ⟨2,n,[],[l]⟩ (ag bI.heap.size 0 1 1));obtain⟨⟨aQ,aN,aJ,c3⟩,f0,f1,f2,f3⟩:=hb xM.out.a;clear aV;go_wp2_with fail;refine dU (w:=hW (bI.alloc (ai (#[ad p l.length c]) 345)) w.heap.size ⟨2,n,[],[l]⟩ (ag bI.heap.size 0 1 1)) (v:=.tuple #[kA ⟨2,n,[],[l]⟩ (ag bI.heap.size 0 1 1),I 0]) ?_ rfl ?_
     ·clear aQ aN aJ c3 f0 f1 f2 f3 r6;generalize hW (bI.alloc (ai (#[ad p l.length c]) 345)) w.heap.size ⟨2,n,[],[l]⟩ (ad (some (aj bI.heap.size 0)) 1 1)=e5 at aO⊢;obtain⟨⟨aQ,aN,aJ,c3⟩,_⟩:=hb aO.out.1;simp[results,KC,go_sem,aQ,aN,aJ,c3]<;>rfl
     ·rw[←a'.out];exact⟨aO.out.2,_,_,rfl,KB.out.keep r6.out (by decide) (by decide)⟩
    ·have KF:((e:Int) !=0)=true:=(by simp;omega);have a':af (Except.error e=res):=(by show _=_;rw[←dn.out,bb he]);clear dn he;obtain⟨⟨aQ,aN,aJ,c3⟩,f0,f1,f2,f3⟩:=hb aV.out.a;have aO:=aq (pJ aV.out ct.cu bN);go_wp2_with fail;refine dU (w:=hW bI w.heap.size ct.cu bN) (v:=.tuple #[kA ct.cu bN,I (e:Int)]) ?_ rfl ?_
     ·clear aQ aN aJ c3 f0 f1 f2 f3;generalize hW bI w.heap.size ct.cu bN=e5 at aO⊢;obtain⟨⟨aQ,aN,aJ,c3⟩,_⟩:=hb aO.out.1;simp[results,KC,go_sem,aQ,aN,aJ,c3]<;>rfl
     ·rw[←a'.out];exact⟨aO.out.2,rfl⟩
   ·rw[bb (.inr Ci)] at aA;have a':af (Except.error 3=res):=aA;rw[ey Ci] at hz;clear aA q8 ih gD pH az Ci;go_wp2_with fail;with_reducible refine (xq _ _ _ hz _).mono ?_
    rintro e dP ⟨rfl,rfl⟩;obtain⟨⟨aQ,aN,aJ,c3⟩,f0,f1,f2,f3⟩:=hb aV.out.a;have aO:=aq (pJ aV.out ct.cu bN);go_wp2_with fail;refine dU (w:=hW b4 w.heap.size ct.cu bN) (v:=.tuple #[kA ct.cu bN,I 3]) ?_ rfl ?_
    ·clear aQ aN aJ c3 f0 f1 f2 f3;generalize hW b4 w.heap.size ct.cu bN=e5 at aO⊢;obtain⟨⟨aQ,aN,aJ,c3⟩,_⟩:=hb aO.out.1;simp[results,KC,go_sem,aQ,aN,aJ,c3]<;>rfl
    ·rw[←a'.out];exact⟨aO.out.2,rfl⟩
inductive s8(B:Nat)(w:aeo):List (List (Int×Int))→aev→Prop
 |nil:s8 B w [] []
 |cons {x:List (Int×Int)} {l:List (List (Int×Int))} {q:Ja} {k:Nat} {xs:aev}:oB B w q x→s8 B w l xs→s8 B w (x::l) (ad q x.length k::xs)
theorem s8.keep{T:aai}{B:Nat}{w w':aeo}{l:List (List (Int×Int))}{xs:aev}(h:s8 B w l xs)(ay:ky T w w')(fC:413≠T):s8 B w' l xs:=by
 induction h with
 |nil=>exact .nil
 |cons a _ cO=>exact .cons (a.keep ay fC) cO
variable{xs:aev}
theorem s8.snoc{l:List (List (Int×Int))}(h:s8 B w l xs){x:List (Int×Int)}{q:Ja}(k:Nat)(hx:oB B w q x):s8 B w (l++[x]) (xs++[ad q x.length k]):=by
 induction h with
 |nil=>exact .cons hx .nil
 |cons a _ cO=>exact .cons a cO
theorem s8.get{l:List (List (Int×Int))}(h:s8 B w l xs):∀(i:Nat) (hi:i<l.length),∃q c,xs[i]?=some (.slice q l[i].length c)∧oB B w q l[i]:=by
 induction h with
 |nil=>exact fun i hi=>absurd hi (my _)
 |cons a _ cO=>
  intro i hi;cases i with
  |zero=>exact⟨_,_,rfl,a⟩
  |succ i=>exact cO i (Aj hi)
theorem amR{v:ada}{l:List (List (Int×Int))}{xs:aev}(h:w.ownsRow B 345 1 v l.length xs)(ha:s8 B w l xs):∃p c,v=ad p l.length c∧mi B w p l:=by
 rcases h.2 with ⟨av,az⟩|⟨g,c,cur,av,az,aC,bt,cr,c4,ez⟩
 ·exact⟨none,0,by rw[av,az],fun aA=>absurd aA (by omega)⟩
 ·refine⟨_,c,av,fun aA=>⟨g,0,cur,rfl,az,aC,fun i hi=>?_⟩⟩;obtain⟨q,k,g1,g2⟩:=ha.get i hi;refine⟨q,k,?_,g2⟩;rw[j7,←vw,←g1,←ez,Eu (by omega)]
structure Cj(w:aeo)(b:Nat)(n:Int)(kz:ada)(acc:List (List (Int×Int)))(W:aeo):Prop where
 gt:w.heap.size<b
 r:W.heap[w.heap.size]?=some O5
 nb:an W b (#[I 3,I n,aa ⟨#[]⟩,kz]) 259
 row:∃xs,W.ownsRow w.heap.size 345 1 kz acc.length xs∧s8 w.heap.size W acc xs
 aX:ao w w W
theorem Cj.below{ko:aeo}{n:Int}{kz:ada}{acc:List (List (Int×Int))}(h:Cj w b n kz acc W)(ax:ao W W ko):Cj w b n kz acc ko:=by obtain⟨xs,av,az⟩:=h.row;exact⟨h.gt,aU h.r ax,aU h.nb ax,⟨xs,gC av ax,az.keep (T:=0) (.dW ax) (by decide)⟩,h.aX.trans (ax.mono h.aX.size)⟩
theorem Cj.push{X cc:aeo}{n:Int}{kz v':ada}{acc:List (List (Int×Int))}{l:List (Int×Int)}{q:Ja}{k:Nat}(h:Cj w b n kz acc W)(hx:W.ownsRow w.heap.size 345 1 kz acc.length xs)(ha:s8 w.heap.size W acc xs)(c7:ao W W X)(aF:X.grownBy cc kz.ownBlock)(bm:cc.ownsRow w.heap.size 345 1 v' (acc.length+1) (xs++[ad q l.length k]))(aA:oB w.heap.size W q l):
  Cj w b n v' (acc++[l]) (cc.setCell (aj b 3) v')∧an cc b (#[I 3,I n,aa ⟨#[]⟩,kz]) 259:=by
 have av:=h.below c7;have nV:=gC hx c7;have lt:∀{k:Nat} {o:Obj},X.heap[k]?=some o→k<X.heap.size:=fun ay=>(Array.getElem?_eq_some_iff.1 ay).1;have hr:cc.heap[w.heap.size]?=some O5:=(aF.block _ (lt av.r) (gu (m' nV av.r (by decide)))).trans av.r;have hp:an cc b (#[I 3,I n,aa ⟨#[]⟩,kz]) 259:=(aF.block _ (lt av.nb) (gu (m' nV av.nb (by decide)))).trans av.nb;have hK:ky 345 W cc:=(ky.dW c7).trans (.grown nV aF);have amS:ky 259 cc (cc.setCell (aj b 3) v'):=.set hp v';refine⟨⟨h.gt,?_,?_,⟨_,?_,((ha.keep hK (by decide)).snoc k (aA.keep hK (by decide))).keep amS (by decide)⟩,?_⟩,hp⟩
 ·exact (tn _ _ _ _ (by show w.heap.size≠b;have:=h.gt;omega)).trans hr
 ·rw[j9 hp];rfl
 ·rw[show (acc++[l]).length=acc.length+1 by simp];exact sR bm hp (by decide) _
 ·exact ((av.aX.grown aF av.aX.size (fun k ay=>(nV.lt _ ay).1))).setCell (Du h.gt) _
def KG(n:Int):Except Nat (List (List (Int×Int)))→Except Nat eC
 |.error e=>.error e
 |.ok l=>if oX n l.length=true then .ok ⟨3,n,[],l⟩ else .error 3
theorem abb(f:Nat)(s:au)(acc:List (List (Int×Int))):ys (f+1) s acc=if acc.length=1100 then .error 6 else match wu.x' (eE 44 s).1 with
 |(l,_,e)=>if e≠0 then .error e else if (eE 44 s).2.2=true then ys f (eE 44 s).2.1 (acc++[l]) else .ok (acc++[l]):=rfl
theorem amT(h:u' s=some (d,r))(r7:r.headD 0=44)(hp:qu d≠0):va s=KG (qu d) (ys (r.length+1) (r.drop 1) []):=by unfold va;rw[h];simp only[];rw[aW (fun aK=>aK r7),aW hp];cases ys (r.length+1) (r.drop 1) []<;>rfl
theorem amU(h:u' s=some (d,r))(r7:r.headD 0=44)(hp:qu d=0):va s=.error 8:=by unfold va;rw[h];simp only[];rw[aW (fun aK=>aK r7),bb hp]
theorem amV(h:u' s=some (d,r))(r7:r.headD 0≠44):va s=.error 3:=by unfold va;rw[h];simp only[];rw[bb r7]
theorem amW(h:u' s=none):va s=.error 3:=by unfold va;rw[h]
theorem amX(d:au)(h:qu d≠0):qu d=1∨qu d=4∨qu d=7∨qu d=20∨qu d=21:=by
 unfold qu at h⊢;split
 ·exact .inl rfl
 ·split
  ·exact .inr (.inl rfl)
  ·split
   ·exact .inr (.inr (.inl rfl))
   ·split
    ·exact .inr (.inr (.inr (.inl rfl)))
    ·split
     ·exact .inr (.inr (.inr (.inr rfl)))
     ·rename_i av az aC bt cr;rw[aW av,aW az,aW aC,aW bt,aW cr] at h;exact absurd rfl h
theorem amY:(Tryz.prog.info? 345).map (fun i=>(i.zero,i.size,i.bytes))=some (some (J 0),1,24):=by kernel_rfl
theorem amZ(S:Ua)(hs:S.size≤1000000000)(res:Except Nat eC)(hr:af (va S.data.toList=res))(w:aeo):
  Calls Tryz.prog 181 #[aa S] w (Uc res w):=by
 have db:=aq hs;have aA:=hr.out;obtain⟨o,bm⟩:=aa7 S.data.toList;have b6:=aq bm;clear hr hs;have aV:af (vW w (w.alloc (ai (#[I 0,I 0,aa ⟨#[]⟩,J 0]) 259))):=Ub w;go_enter Tryz.func181,Tryz.ntmps181;go_upto_region 1 with fail;generalize w.alloc (.cells #[I 0,I 0,aa ⟨#[]⟩,J 0] 259)=W at aV⊢;go_wp2_with fail;with_reducible refine (JR S db.out o b6 _).mono ?_
 rintro e b4 ⟨he,hd⟩;have eQ:=aq (aV.out.below (ld hd));clear hd aV;have aV:=eQ;clear eQ;cases o with
 |none=>
  have a':af (Except.error 3=res):=(by show _=_;rw[←aA,amW bm]);unfold KD at he;simp only[] at he;subst he;clear aA bm b6;obtain⟨⟨aQ,aN,aJ,c3⟩,f0,f1,f2,f3⟩:=hb aV.out.a;have aO:=aq (pJ aV.out ct.cu bN);go_wp2_with fail;refine dU (w:=hW b4 w.heap.size ct.cu bN) (v:=.tuple #[kA ct.cu bN,I 3]) ?_ rfl ?_
  ·clear aQ aN aJ c3 f0 f1 f2 f3;generalize hW b4 w.heap.size ct.cu bN=e5 at aO⊢;obtain⟨⟨aQ,aN,aJ,c3⟩,_⟩:=hb aO.out.1;simp[results,Ex,go_sem,aQ,aN,aJ,c3]<;>rfl
  ·rw[←a'.out];exact⟨aO.out.2,rfl⟩
 |some x=>
  obtain⟨D,R⟩:=x;unfold KD at he;simp only[] at he;subst he;obtain⟨q8,ih,gD,pH⟩:=aa9 bm;rw[cb,cb] at gD pH;have gD:D.size≤S.size:=gD;have pH:R.size≤S.size:=pH;simp only[yH] at bm;have hz:af (decide (R.data.toList.take (⟨#[44]⟩:Ua).data.toList.length=(⟨#[44]⟩:Ua).data.toList)=decide (R.data.toList.headD 0=44)):=Ud _ (by decide);by_cases r7:R.data.toList.headD 0=44
  ·rw[eL r7] at hz
   have At:0<R.size:=by
    rw[←cb];cases aR:R.data.toList with
    |nil=>rw[aR] at r7;exact absurd r7 (by decide)
    |cons a b=>simp
   have i7:(1:Int)≤(R.size:Int):=(by omega);obtain⟨n,hn⟩:=ar (qu D.data.toList);have bd:=aq hn
   have aI:af (Cj w b4.heap.size n bN [] (b4.alloc (ai (#[I 3,I n,aa ⟨#[]⟩,J 0]) 259))):=
    ⟨(Array.getElem?_eq_some_iff.1 aV.out.a).1,aU aV.out.a ((Below.refl _ _).alloc (bx _) _),fJ b4 _,⟨[],Kx _ _ _ _,.nil⟩,aV.out.b.alloc aV.out.b.size _⟩
   have cR:af (n=0→res=.error 8):=(fun h=>by rw[←aA,amU bm r7 (by rw[hn];exact h)]);have c1:af (n≠0→KG n (ys (R.size+1) (R.extract 1 R.size).data.toList [])=res):=(fun h=>by rw[←aA,amT bm r7 (by rw[hn];exact h),hn,cb,jP]);have b0:af (n≠0→n=1∨n=4∨n=7∨n=20∨n=21):=(fun h=>by rw[←hn];exact amX _ (by rw[hn];exact h));have p5:af ((R.extract 1 R.size).size<R.size+1∧R.size≤1000000000):=(by refine⟨?_,by have:=db.out;omega⟩;rw[←cb,jP,fH,cb];omega);clear aA bm b6 q8 ih gD pH r7 hn At;generalize o8:b4.heap.size=dG at aI;go_wp2_with fail;with_reducible refine (xq _ _ _ hz _).mono ?_
   rintro e dP ⟨rfl,rfl⟩;go_wp2_with fail;with_reducible refine (amF D n bd _).mono ?_
   rintro e cW ⟨rfl,rfl⟩;go_upto_region 5 with fail;generalize b4.alloc _=eK at aI⊢;clear aV o8;by_cases aS:n=0
   ·have a':af (Except.error 8=res):=(cR.out aS).symm;have n0:(n==0)=true:=(by simp[aS]);obtain⟨⟨d0,d1,d2,d3⟩,g0,g1,g2,g3⟩:=hb aI.out.nb;have aV:af (vW w eK):=⟨aI.out.r,aI.out.aX⟩;clear aS cR c1 b0;obtain⟨⟨aQ,aN,aJ,c3⟩,f0,f1,f2,f3⟩:=hb aV.out.a;have aO:=aq (pJ aV.out ct.cu bN);go_wp2_with fail;refine dU (w:=hW eK w.heap.size ct.cu bN) (v:=.tuple #[kA ct.cu bN,I 8]) ?_ rfl ?_
    ·clear aQ aN aJ c3 f0 f1 f2 f3;generalize hW eK w.heap.size ct.cu bN=e5 at aO⊢;obtain⟨⟨aQ,aN,aJ,c3⟩,_⟩:=hb aO.out.1;simp[results,Ex,go_sem,aQ,aN,aJ,c3]<;>rfl
    ·rw[←a'.out];exact⟨aO.out.2,rfl⟩
   ·have n0:(n==0)=false:=(by simp[aS]);have bw:=aq (c1.out aS);have DJ:=aq (b0.out aS);obtain⟨⟨d0,d1,d2,d3⟩,g0,g1,g2,g3⟩:=hb aI.out.nb;clear aS cR c1 b0;go_upto_region 9 with fail;clear d0 d1 d2 d3 g0 g1 g2 g3
    go_loopw [5,8] (fun l s wr=>∃(f:Nat) (hD:Ua) (xN:Bool) (acc:List (List (Int×Int))) (kz:ada),l=aa hD∧s=U xN∧af (Cj w dG n kz acc wr)∧af (hD.size≤1000000000)∧af (xN=true→hD.size<f)∧af (acc.length≤1100)∧af (KG n (if xN=true then ys f hD.data.toList acc else .ok acc)=res)) (fun l s _=>O4 s *(Lib.strSize l+1))
    case atStart=>exact⟨R.size+1,R.extract 1 R.size,true,[],bN,rfl,rfl,aI,(by have:=p5.out;show _≤_;omega),fun _=>p5.out.1,dO _,bw⟩
    case round=>
     obtain⟨f,hD,xN,acc,kz,rfl,rfl,aI,Ev,l5,fT,bw⟩:=hrel;obtain⟨xs,hx,ha⟩:=aI.out.row;obtain⟨p,cap,rfl,ur⟩:=amR hx ha;have cR:=aq hx;have cy:=aq ha;have Au:=aq ur;have Jw:acc.length≤1100:=fT.out;clear hx ha ur;obtain⟨⟨d0,d1,d2,d3⟩,g0,g1,g2,g3⟩:=hb aI.out.nb;have aV:af (vW w wr):=⟨aI.out.r,aI.out.aX⟩;cases xN with
     |false=>
      obtain⟨b,ax⟩:=ar (oX n acc.length);have Hd:=aq ax;have hr:=bw.out;rw[aW (by decide)] at hr;unfold KG at hr;simp only[] at hr;rw[ax] at hr;clear ax bw;go_wp2_with fail;with_reducible refine (amG n acc.length p cap b DJ.out fT.out Hd _).mono ?_
      rintro e bI ⟨rfl,dY⟩;have eH:=aq (aI.out.below dY);have am0:=aq (Au.out.keep (.dW (T:=0) dY) (by decide) (by decide));have xP:=aq (aV.out.below dY);clear dY aV aI d0 d1 d2 d3 g0 g1 g2 g3 cR cy Au;have aV:=xP;clear xP;obtain⟨⟨d0,d1,d2,d3⟩,g0,g1,g2,g3⟩:=hb eH.out.nb;cases b with
      |false=>
       have a':af (Except.error 3=res):=hr;clear hr;obtain⟨⟨aQ,aN,aJ,c3⟩,f0,f1,f2,f3⟩:=hb aV.out.a;have aO:=aq (pJ aV.out ct.cu bN);go_wp2_with fail;refine dU (w:=hW bI w.heap.size ct.cu bN) (v:=.tuple #[kA ct.cu bN,I 3]) ?_ rfl ?_
       ·clear aQ aN aJ c3 f0 f1 f2 f3;generalize hW bI w.heap.size ct.cu bN=e5 at aO⊢;obtain⟨⟨aQ,aN,aJ,c3⟩,_⟩:=hb aO.out.1;simp[results,Ex,go_sem,aQ,aN,aJ,c3]<;>rfl
       ·rw[←a'.out];exact⟨aO.out.2,rfl⟩
      |true=>
       have a':af (Except.ok ⟨3,n,[],acc⟩=res):=hr;clear hr;have r6:=aq (Hc aV.out.a ⟨3,n,[],acc⟩ (ad p acc.length cap));have aO:=aq (pJ aV.out ⟨3,n,[],acc⟩ (ad p acc.length cap));obtain⟨⟨aQ,aN,aJ,c3⟩,f0,f1,f2,f3⟩:=hb aV.out.a;go_wp2_with fail;refine dU (w:=hW bI w.heap.size ⟨3,n,[],acc⟩ (ad p acc.length cap)) (v:=.tuple #[kA ⟨3,n,[],acc⟩ (ad p acc.length cap),I 0]) ?_ rfl ?_
       ·clear aQ aN aJ c3 f0 f1 f2 f3 d0 d1 d2 d3 g0 g1 g2 g3 r6;generalize hW bI w.heap.size ⟨3,n,[],acc⟩ (ad p acc.length cap)=e5 at aO⊢;obtain⟨⟨aQ,aN,aJ,c3⟩,_⟩:=hb aO.out.1;simp[results,Ex,go_sem,aQ,aN,aJ,c3]<;>rfl
       ·rw[←a'.out];exact⟨aO.out.2,_,_,rfl,am0.out.keep r6.out (by decide) (by decide)⟩
     |true=>
      obtain⟨g,rfl⟩:∃g,f=g+1:=⟨f-1,by have:=l5.out rfl;omega⟩;have e0:af (hD.size<g+1):=l5.out rfl;clear l5;have hr:=bw.out;rw[bb rfl,abb] at hr;by_cases hm:acc.length=1100
      ·rw[bb hm] at hr;have a':af (Except.error 6=res):=hr;have am1:((acc.length:Int)==1100)=true:=(by simp;omega);clear hr hm bw;obtain⟨⟨aQ,aN,aJ,c3⟩,f0,f1,f2,f3⟩:=hb aV.out.a;have aO:=aq (pJ aV.out ct.cu bN);go_wp2_with fail;refine dU (w:=hW wr w.heap.size ct.cu bN) (v:=.tuple #[kA ct.cu bN,I 6]) ?_ rfl ?_
       ·clear aQ aN aJ c3 f0 f1 f2 f3;generalize hW wr w.heap.size ct.cu bN=e5 at aO⊢;obtain⟨⟨aQ,aN,aJ,c3⟩,_⟩:=hb aO.out.1;simp[results,Ex,go_sem,aQ,aN,aJ,c3]<;>rfl
       ·rw[←a'.out];exact⟨aO.out.2,rfl⟩
      ·rw[aW hm] at hr;have am1:((acc.length:Int)==1100)=false:=(by simp;omega);obtain⟨iT,hA2⟩:=jQ (eE 44 hD.data.toList).1;obtain⟨gR,mz⟩:=jQ (eE 44 hD.data.toList).2.1;obtain⟨bq,dc⟩:=ar ((eE 44 hD.data.toList).2.2);have dp:af (eE 44 hD.data.toList=(iT.data.toList,gR.data.toList,bq)):=(by show _=_;rw[hA2,mz,←dc]);have e9:af (iT.size≤hD.size∧gR.size≤hD.size∧(bq=true→gR.size<hD.size)):=(by have av:=G7 44 hD.data.toList;have az:=G8 44 hD.data.toList;have aC:=fun h=>aa6 (c:=44) (l:=hD.data.toList) h;rw[←hA2,cb,cb] at av;rw[←mz,cb,cb] at az;rw[←mz,cb,cb,dc] at aC;exact⟨av,az,aC⟩);rw[←hA2,←mz,dc] at hr;obtain⟨⟨l,a,e⟩,hp⟩:=ar (wu.x' iT.data.toList);have bT:=aq hp;rw[hp] at hr;simp only[] at hr;have eO:=aq hr;clear hr hp hA2 mz dc bw cR cy Au aV;go_wp2_with fail;with_reducible refine (G6 hD Ev.out 44 iT gR bq dp _).mono ?_
       rintro nN bI ⟨rfl,hd⟩;have eH:=aq (aI.out.below (ld hd));clear hd aI d0 d1 d2 d3 g0 g1 g2 g3;go_wp2_with fail;with_reducible refine (ZQ iT (dx (dx e9.out.1 Ev.out) (by decide)) _ l a e bT).mono ?_
       rintro h3 cN ⟨v,rfl,aY,dF⟩;obtain⟨k5,bZ,rfl,KE⟩:=aba aY;have aI:=aq (eH.out.below dF);have Uf:=aq (KE.mono eH.out.aX.size);clear dF aY KE eH;by_cases he:e=0
       ·subst he;have rz:af (KG n (if bq=true then ys g gR.data.toList (acc++[l]) else .ok (acc++[l]))=res):=eO.out;clear eO;obtain⟨xs,hx,ha⟩:=aI.out.row;have cR:=aq hx;have cy:=aq ha;clear hx ha;obtain⟨⟨d0,d1,d2,d3⟩,g0,g1,g2,g3⟩:=hb aI.out.nb;obtain⟨i0,k',dy,dJ,dv⟩:=info_parts amY;have b8:=aq (And.intro k' (And.intro dy (And.intro dJ dv)));clear k' dy dJ dv;go_wp2_with (at_builtin;refine uO _ rfl _ _ _ rfl w.heap.size 345 i0 (J 0) 1 24 Tryz.underlying257 b8.out.1 b8.out.2.1 b8.out.2.2.1 b8.out.2.2.2 rfl (by omega) (ad p acc.length cap) acc.length (xs) (by rfl) (cR.out.alloc _) (aj ((cN).heap.size) 0) 1 1 [ad k5 l.length bZ] (by rfl) rfl (j8 (fJ (cN) _)) (by simp[Value.oneCell']) (by unfold maxLen;omega) (by omega) (by have:=aI.out.aX.size;simp<;>omega) ?_;intro v' w' fR hL nF;obtain⟨g',mW,rfl,_,_⟩:=fR.form (by omega);obtain⟨KA,ry⟩:=aI.out.push (l:=l) (q:=k5) (k:=bZ) (v':=ad (some (aj g' 0)) (acc.length+1) mW) cR.out cy.out ((Below.refl _ _).alloc (bx _) _) hL fR Uf.out;have KB:=aq KA;have T8:ak w' dG 3 _:=A1 w' dG 3 _ _ (0,0) ry;have T9:w'.frozen? ⟨dG,3,none⟩=false:=(by simp[World.frozen?,ry]);clear KA ry;clear fR hL nF);clear d0 d1 d2 d3 g0 g1 g2 g3;go_round
        case rel=>exact⟨g,gR,bq,acc++[l],_,rfl,rfl,KB,dx e9.out.2.1 Ev.out,(fun h=>by have:=e0.out;have:=e9.out.2.2 h;omega),(by show (acc++[l]).length≤_;rw[iv];simp only[Ky];omega),rz⟩
        case measure=>
         show O4 (U bq) *(gR.size+1)<1 *(hD.size+1);have:=e9.out.2.2;cases bq with
         |false=>show 0 *(gR.size+1)<1 *(hD.size+1);omega
         |true=>show 1 *(gR.size+1)<1 *(hD.size+1);have:=this rfl;omega
       ·have KF:((e:Int) !=0)=true:=(by simp;omega);have a':af (Except.error e=res):=(by show _=_;rw[←eO.out,bb he];rfl);have aV:af (vW w cN):=⟨aI.out.r,aI.out.aX⟩;clear eO he;obtain⟨⟨aQ,aN,aJ,c3⟩,f0,f1,f2,f3⟩:=hb aV.out.a;have aO:=aq (pJ aV.out ct.cu bN);go_wp2_with fail;refine dU (w:=hW cN w.heap.size ct.cu bN) (v:=.tuple #[kA ct.cu bN,I (e:Int)]) ?_ rfl ?_
        ·clear aQ aN aJ c3 f0 f1 f2 f3;generalize hW cN w.heap.size ct.cu bN=e5 at aO⊢;obtain⟨⟨aQ,aN,aJ,c3⟩,_⟩:=hb aO.out.1;simp[results,Ex,go_sem,aQ,aN,aJ,c3]<;>rfl
        ·rw[←a'.out];exact⟨aO.out.2,rfl⟩
  ·have a':af (Except.error 3=res):=(by show _=_;rw[←aA,amV bm r7]);rw[ey r7] at hz;clear aA q8 ih gD pH r7 bm b6;go_wp2_with fail;with_reducible refine (xq _ _ _ hz _).mono ?_
   rintro e dP ⟨rfl,rfl⟩;obtain⟨⟨aQ,aN,aJ,c3⟩,f0,f1,f2,f3⟩:=hb aV.out.a;have aO:=aq (pJ aV.out ct.cu bN);go_wp2_with fail;refine dU (w:=hW b4 w.heap.size ct.cu bN) (v:=.tuple #[kA ct.cu bN,I 3]) ?_ rfl ?_
   ·clear aQ aN aJ c3 f0 f1 f2 f3;generalize hW b4 w.heap.size ct.cu bN=e5 at aO⊢;obtain⟨⟨aQ,aN,aJ,c3⟩,_⟩:=hb aO.out.1;simp[results,Ex,go_sem,aQ,aN,aJ,c3]<;>rfl
   ·rw[←a'.out];exact⟨aO.out.2,rfl⟩
end iS
