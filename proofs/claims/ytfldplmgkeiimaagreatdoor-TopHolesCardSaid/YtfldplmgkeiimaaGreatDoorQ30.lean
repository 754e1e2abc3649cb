/- Lemmas. -/
import Derived.Test.YtfldplmgkeiimaaGreatDoorQ29
import Derived.Lib.ConvBytes
set_option linter.all false
set_option maxRecDepth 100000
set_option maxHeartbeats 12800000
namespace Go.Proofs.YtfldplmgkeiimaaGreatDoor
abbrev I3:=@Proofs.Tryz.func223
abbrev I4:=@Proofs.Tryz.ntmps223
abbrev xd:=@Proofs.Tryz.func224
abbrev xe:=@Proofs.Tryz.ntmps224
abbrev BT:=@List.mem_cons_of_mem
abbrev Mz:=@Proofs.Tryz.results180
abbrev Gh:=@Proofs.Tryz.results181
namespace jj
open Go.RowKit pH kG qk Mem rG cf
def MA:Option (ByteArray×ByteArray)→Ending→Prop
 |none,e=>e=bb (.tuple #[au ⟨#[]⟩,au ⟨#[]⟩,ai false])
 |some x,e=>e=bb (.tuple #[au x.1,au x.2,ai true])
theorem adF(s:bk):∃o:Option (ByteArray×ByteArray),wt s=o.map fun x=>(x.1.data.toList,x.2.data.toList):=by
 unfold wt;split
 ·exact⟨none,rfl⟩
 ·exact⟨some (⟨(s.take (bC s)).toArray⟩,⟨(s.drop (bC s)).toArray⟩),rfl⟩
theorem FD(S:aia)(hs:S.size≤1000000000)(o:Option (ByteArray×ByteArray))(bl:J (wt S.data.toList=o.map fun x=>(x.1.data.toList,x.2.data.toList)))(w:bTo):
  Calls Tryz.prog 220 #[au S] w fun e w'=>MA o e∧H0 w w':=by
 have aj:=bl.out;unfold wt at aj;obtain⟨n,hn⟩:=az (bC S.data.toList);have ot:=U hn
 have xG:J (n=0→o=none):=by
  intro h;rw[aT (.inl (by rw[hn];exact h))] at aj;cases o with
  |none=>rfl
  |some x=>cases aj
 have pe:J (∀h:0<S.size,S[0]=48→o=none):=by
  intro hp h;rw[aT (.inr (by rw[Bw S hp];exact h))] at aj;cases o with
  |none=>rfl
  |some x=>cases aj
 have Fl:J (n≠0→∀h:0<S.size,S[0]≠48→o=some (S.extract 0 n,S.extract n S.size)):=by
  intro aQ hp h;rw[aK (by rintro (aa|aa);exact aQ (by rw[←hn];exact aa);exact h (by rw[Bw S hp] at aa;exact aa))] at aj;cases o with
  |none=>cases aj
  |some x=>
   obtain⟨a,b⟩:=x;have ah:=C7 aj;simp only[gA] at ah;have ha:a=S.extract 0 n:=ml (by rw[Di,←hn];exact ah.1.symm);have af:b=S.extract n S.size:=ml (by rw[nd,←hn];exact ah.2.symm);rw[ha,af]
 clear aj hn bl;go_enter Tryz.func220,Tryz.ntmps220;go_wp2_with fail
 go_loop [5] (fun i=>∃k:Nat,J (k≤bC S.data.toList)∧i=I (k:Int)) (fun i=>S.size -(intOf i).toNat)
 case atStart=>exact⟨0,eC _,rfl⟩
 case round=>
  obtain⟨k,cT,rfl⟩:=hrel;have ko:k≤S.size:=(by have aa:=r5 S.data.toList;have:=cT.out;rw[cR] at aa;omega);by_cases b0:k<S.size
  ·have Lr:k<S.data.toList.length:=(by rw[cR];exact b0);have ib:(k:Int)<(S.size:Int):=(by omega);by_cases hd:48≤S[k].toNat∧S[k].toNat≤57
   ·have a1:J (k+1≤bC S.data.toList):=NK cT.out Lr (by rw[oq S k b0];exact (q7 _).2 hd);obtain⟨gQ,fV⟩:=hd;go_wp2_with fail;go_round
    case rel=>exact⟨k+1,a1,by go_num⟩
    case measure=>simp[intOf];omega
   ·have a1:J (k=n):=(by show _=_;rw[←ot.out];exact (JQ cT.out Lr (by rw[oq S k b0];exact (JO _).2 (by omega))).symm);by_cases aa:48≤S[k].toNat
    ·have ah:¬S[k].toNat≤57:=fun h=>hd ⟨aa,h⟩;obtain rfl:k=n:=a1.out;clear a1 cT;by_cases aQ:k=0
     ·have a7:=U (xG.out aQ);have b6:((k:Int)==0)=true:=(by simp;omega);clear aQ;go_wp2_with fail;go_ret3;rw[a7.out];exact⟨rfl,0,rfl⟩
     ·have b6:((k:Int)==0)=false:=(by simp;omega);have hp:0<S.size:=(by omega);obtain⟨c,hc⟩:=az (S[0]);by_cases ja:c=48
      ·have a7:=U (pe.out hp (hc.trans ja));subst ja;have ao:((48:UInt8).toNat:Int)=48:=rfl;clear aQ;go_wp2_with fail;go_ret3;rw[a7.out];exact⟨rfl,0,rfl⟩
      ·have a7:=U (Fl.out aQ hp (by rw[hc];exact ja));have ao:((c.toNat:Int)==48)=false:=H2 (k:=48) (by decide) ja;clear aQ ja;go_wp2_with fail;go_region
       all_goals
        go_wp2_with fail;go_ret3;rw[a7.out];exact⟨rfl,1,rfl⟩
    ·skip
     obtain rfl:k=n:=a1.out;clear a1 cT;by_cases aQ:k=0
     ·have a7:=U (xG.out aQ);have b6:((k:Int)==0)=true:=(by simp;omega);clear aQ;go_wp2_with fail;go_ret3;rw[a7.out];exact⟨rfl,0,rfl⟩
     ·have b6:((k:Int)==0)=false:=(by simp;omega);have hp:0<S.size:=(by omega);obtain⟨c,hc⟩:=az (S[0]);by_cases ja:c=48
      ·have a7:=U (pe.out hp (hc.trans ja));subst ja;have ao:((48:UInt8).toNat:Int)=48:=rfl;clear aQ;go_wp2_with fail;go_ret3;rw[a7.out];exact⟨rfl,0,rfl⟩
      ·have a7:=U (Fl.out aQ hp (by rw[hc];exact ja));have ao:((c.toNat:Int)==48)=false:=H2 (k:=48) (by decide) ja;clear aQ ja;go_wp2_with fail;go_region
       all_goals
        go_wp2_with fail;go_ret3;rw[a7.out];exact⟨rfl,1,rfl⟩
  ·have a1:J (k=n):=(by show _=_;rw[←ot.out];have aa:=r5 S.data.toList;have:=cT.out;rw[cR] at aa;omega);have ib:¬((k:Int)<(S.size:Int)):=(by omega);obtain rfl:k=n:=a1.out;clear a1 cT;by_cases aQ:k=0
   ·have a7:=U (xG.out aQ);have b6:((k:Int)==0)=true:=(by simp;omega);clear aQ;go_wp2_with fail;go_ret3;rw[a7.out];exact⟨rfl,0,rfl⟩
   ·have b6:((k:Int)==0)=false:=(by simp;omega);have hp:0<S.size:=(by omega);obtain⟨c,hc⟩:=az (S[0]);by_cases ja:c=48
    ·have a7:=U (pe.out hp (hc.trans ja));subst ja;have ao:((48:UInt8).toNat:Int)=48:=rfl;clear aQ;go_wp2_with fail;go_ret3;rw[a7.out];exact⟨rfl,0,rfl⟩
    ·have a7:=U (Fl.out aQ hp (by rw[hc];exact ja));have ao:((c.toNat:Int)==48)=false:=H2 (k:=48) (by decide) ja;clear aQ ja;go_wp2_with fail;go_region
     all_goals
      go_wp2_with fail;go_ret3;rw[a7.out];exact⟨rfl,1,rfl⟩
theorem apE(S:aia)(n:Int)(hn:J (rn S.data.toList=n))(w:bTo):
  Calls Tryz.prog 223 #[au S] w fun e w'=>e=bb (I n)∧w=w':=by
 have aj:=hn.out;unfold rn at aj;by_cases bN:S.data.toList=[49]
 ·rw[aT bN] at aj;have aN:(S.toList==[49])=true:=(by rw[e2];exact eH bN);subst aj;clear hn bN;go_enter I3,I4;go_wp2_with fail;go_ret;exact⟨rfl,rfl⟩
 ·rw[aK bN] at aj;have aN:(S.toList==[49])=false:=(by rw[e2];exact eD bN);by_cases ch:S.data.toList=[52]
  ·rw[aT ch] at aj;have aR:(S.toList==[52])=true:=(by rw[e2];exact eH ch);subst aj;clear hn bN ch;go_enter I3,I4;go_wp2_with fail;go_ret;exact⟨rfl,rfl⟩
  ·rw[aK ch] at aj;have aR:(S.toList==[52])=false:=(by rw[e2];exact eD ch);by_cases ep:S.data.toList=[55]
   ·rw[aT ep] at aj;have cA:(S.toList==[55])=true:=(by rw[e2];exact eH ep);subst aj;clear hn bN ch ep;go_enter I3,I4;go_wp2_with fail;go_ret;exact⟨rfl,rfl⟩
   ·rw[aK ep] at aj;have cA:(S.toList==[55])=false:=(by rw[e2];exact eD ep);by_cases gx:S.data.toList=[50,48]
    ·rw[aT gx] at aj;have hN:(S.toList==[50,48])=true:=(by rw[e2];exact eH gx);subst aj;clear hn bN ch ep gx;go_enter I3,I4;go_wp2_with fail;go_ret;exact⟨rfl,rfl⟩
    ·rw[aK gx] at aj;have hN:(S.toList==[50,48])=false:=(by rw[e2];exact eD gx);by_cases jL:S.data.toList=[50,49]
     ·rw[aT jL] at aj;have mC:(S.toList==[50,49])=true:=(by rw[e2];exact eH jL);subst aj;clear hn bN ch ep gx jL;go_enter I3,I4;go_wp2_with fail;go_ret;exact⟨rfl,rfl⟩
     ·rw[aK jL] at aj;have mC:(S.toList==[50,49])=false:=(by rw[e2];exact eD jL);subst aj;clear hn bN ch ep gx jL;go_enter I3,I4;go_wp2_with fail;go_ret;exact⟨rfl,rfl⟩
theorem apF(n:Int)(k:Nat)(p:aya)(c:Nat)(b:Bool)(hn:n=1∨n=4∨n=7∨n=20∨n=21)(ab:k≤1100)(af:J (pk n k=b))(w:bTo):
  Calls Tryz.prog 224 #[.agg #[I 3,I n,au ⟨#[]⟩,ad p k c]] w fun e w'=>e=bb (ai b)∧av w w w':=by
 have hx:J (b=pk n k):=af.out.symm;clear af;have fp:∀o,J (av w w (w.alloc o)):=fun o=>(Below.refl _ _).alloc (bD _) _;obtain rfl|rfl|rfl|rfl|rfl:=hn
 ·skip
  by_cases aQ:k=4
  ·have b6:((k:Int)==4)=true:=(by simp;omega);go_enter xd,xe;go_wp2_with fail;go_ret;refine⟨ej ?_,(fp _).out⟩;rw[hx.out];simp[pk, *]
  ·have b6:((k:Int)==4)=false:=(by simp;omega);by_cases aa:k=5
   ·have bP:((k:Int)==5)=true:=(by simp;omega);go_enter xd,xe;go_wp2_with fail;go_ret;refine⟨ej ?_,(fp _).out⟩;rw[hx.out];simp[pk, *]
   ·have bP:((k:Int)==5)=false:=(by simp;omega);go_enter xd,xe;go_wp2_with fail;go_ret;refine⟨ej ?_,(fp _).out⟩;rw[hx.out];simp[pk, *]
 ·skip
  by_cases aQ:k%2=1
  ·have b6:((k:Int)%2==1)=true:=(by simp;omega);have apG:(Int.tmod (k:Int) 2==1)=true:=(by rw[CG (by omega)];exact b6);by_cases aa:7≤k
   ·have bP:7≤(k:Int):=(by omega);have a8:(k:Int)≤1100:=(by omega);go_enter xd,xe;go_wp2_with fail;go_ret;refine⟨ej ?_,(fp _).out⟩;rw[hx.out];simp[pk, *]
   ·have bP:¬7≤(k:Int):=(by omega);go_enter xd,xe;go_wp2_with fail;go_ret;refine⟨ej ?_,(fp _).out⟩;rw[hx.out];simp[pk, *]
  ·have b6:((k:Int)%2==1)=false:=(by simp;omega);have apG:(Int.tmod (k:Int) 2==1)=false:=(by rw[CG (by omega)];exact b6);go_enter xd,xe;go_wp2_with fail;go_ret;refine⟨ej ?_,(fp _).out⟩;rw[hx.out];simp[pk, *]
 ·skip
  by_cases aQ:k=6
  ·have b6:((k:Int)==6)=true:=(by simp;omega);go_enter xd,xe;go_wp2_with fail;go_ret;refine⟨ej ?_,(fp _).out⟩;rw[hx.out];simp[pk, *]
  ·have b6:((k:Int)==6)=false:=(by simp;omega);go_enter xd,xe;go_wp2_with fail;go_ret;refine⟨ej ?_,(fp _).out⟩;rw[hx.out];simp[pk, *]
 ·skip
  by_cases aQ:k=7
  ·have b6:((k:Int)==7)=true:=(by simp;omega);go_enter xd,xe;go_wp2_with fail;go_ret;refine⟨ej ?_,(fp _).out⟩;rw[hx.out];simp[pk, *]
  ·have b6:((k:Int)==7)=false:=(by simp;omega);go_enter xd,xe;go_wp2_with fail;go_ret;refine⟨ej ?_,(fp _).out⟩;rw[hx.out];simp[pk, *]
 ·skip
  by_cases aQ:k=6
  ·have b6:((k:Int)==6)=true:=(by simp;omega);go_enter xd,xe;go_wp2_with fail;go_ret;refine⟨ej ?_,(fp _).out⟩;rw[hx.out];simp[pk, *]
  ·have b6:((k:Int)==6)=false:=(by simp;omega);go_enter xd,xe;go_wp2_with fail;go_ret;refine⟨ej ?_,(fp _).out⟩;rw[hx.out];simp[pk, *]
theorem adG:∀(l:bk) (acc:Nat),(∀c∈l,fi c=true)→Lib.decFrom acc l=some (l.foldl (fun v c=>v *10+(c.toNat-48)) acc)
 |[],acc,_=>rfl
 |c::r,acc,h=>by have hc:=(q7 _).1 (h c (by simp));unfold Lib.decFrom Lib.digitVal;rw[aT hc];exact adG r _ fun d hd=>h d (BT _ hd)
theorem apH{l:bk}(aQ:l≠[])(h:∀c∈l,fi c=true):Lib.atoi l=some (val l:Int):=by
 cases l with
 |nil=>exact absurd rfl aQ
 |cons b r=>
  have af:=(q7 _).1 (h b (by simp));have dK:(b==45)=false:=(by rw[kO];rintro rfl;exact absurd af (by decide));have e':(b==43)=false:=(by rw[kO];rintro rfl;exact absurd af (by decide));show (if (b==45)=true then (Lib.decNat r).map (fun (m:Nat)=>-(m:Int)) else if (b==43)=true then (Lib.decNat r).map (fun (m:Nat)=>(m:Int)) else (Lib.decNat (b::r)).map (fun (m:Nat)=>(m:Int)))=_;unfold Lib.decNat;rw[dK,e',List.isEmpty_cons,aK (by decide),aK (by decide),aK (by decide),adG _ _ h];rfl
variable{s d r:bk}
theorem adH(h:wt s=some (d,r)):d≠[]∧(∀c∈d,fi c=true)∧d.length≤s.length∧r.length≤s.length:=by
 unfold wt at h;split at h
 ·cases h
 ·rename_i hn;have ah:=C7 h;simp only[gA] at ah;obtain⟨rfl,rfl⟩:=ah;have ax:=r5 s;refine⟨?_,?_,?_,?_⟩
  ·intro bg;have b7:=gb List.length bg;rw[mf,th] at b7;have c0:bC s≠0:=fun h=>hn (.inl h);omega
  ·intro c hc;obtain⟨i,hi,rfl⟩:=List.getElem_of_mem hc;rw[mf] at hi;rw[List.getElem_take];exact (za s).1 i (by omega) (by omega)
  ·rw[mf];omega
  ·rw[gZ];omega
theorem apI(D:aia)(aQ:D.data.toList≠[])(h:∀c∈D.data.toList,fi c=true)(hs:D.size≤18)(n:Int)(hn:(val D.data.toList:Int)=n)(w:bTo):
  Calls Tryz.prog 221 #[au D] w fun e w'=>e=bb (.tuple #[I n,.nilIface])∧av w w w':=by
 refine (Tryz.strconv_Atoi D _ hs (apH aQ h) w).mono fun e w' ⟨he,t,bH⟩=>⟨by rw[he,hn],?_⟩;rw[bH];exact⟨rfl,rfl,rfl,by rw[Lib.bytesWorld_size];omega,fun k ab=>Lib.bytesWorld_at_old _ _ _ _ ab⟩
abbrev QI:Obj:=.cells #[I 0,I 0,au ⟨#[]⟩,ay 0] 259
def yQ(b:eI)(kU:ada):Array Value:= #[I b.k,I b.n,au ⟨b.t.toArray⟩,kU]
abbrev kV(b:eI)(kU:ada):Value:=.agg (yQ b kU)
abbrev apJ(b:eI)(kU:ada):Obj:=.cells (yQ b kU) 259
variable{x w W:bTo}{b B:Nat}{v0 v1 v2 v3:ada}{t:aui}
theorem hT(h:bo x b (#[v0,v1,v2,v3]) t):
  (aw x b 0 v0∧aw x b 1 v1∧aw x b 2 v2∧aw x b 3 v3)∧(x.frozen? ⟨b,0,none⟩=false∧x.frozen? ⟨b,1,none⟩=false∧x.frozen? ⟨b,2,none⟩=false∧x.frozen? ⟨b,3,none⟩=false):=by
 refine⟨⟨?_,?_,?_,?_⟩,?_,?_,?_,?_⟩<;>simp[World.cell?,World.frozen?,h]
def iz(w:bTo)(b:Nat)(x:eI)(kU:ada):World:=
 (((w.setCell (ag b 0) (I x.k)).setCell (ag b 1) (I x.n)).setCell (ag b 2) (au ⟨x.t.toArray⟩)).setCell (ag b 3) kU
theorem apK(h:bo x b (#[v0,v1,v2,v3]) t)(u:ada):(x.setCell (ag b 0) u).heap[b]?=some (.cells #[u,v1,v2,v3] t):=kA h 0 u
theorem apL(h:bo x b (#[v0,v1,v2,v3]) t)(u:ada):(x.setCell (ag b 1) u).heap[b]?=some (.cells #[v0,u,v2,v3] t):=kA h 1 u
theorem apM(h:bo x b (#[v0,v1,v2,v3]) t)(u:ada):(x.setCell (ag b 2) u).heap[b]?=some (.cells #[v0,v1,u,v3] t):=kA h 2 u
theorem apN(h:bo x b (#[v0,v1,v2,v3]) t)(u:ada):(x.setCell (ag b 3) u).heap[b]?=some (.cells #[v0,v1,v2,u] t):=kA h 3 u
structure xf(w W:bTo):Prop where
 a:W.heap[w.heap.size]?=some QI
 b:av w w W
theorem xf.below{ng:bTo}(h:xf w W)(af:av W W ng):xf w ng:=⟨aO h.a af,h.b.trans (af.mono h.b.size)⟩
theorem Wc(w:bTo):xf w (w.alloc QI):=⟨gi w _,(Below.refl _ _).alloc (bD _) _⟩
theorem qx(h:xf w W)(x:eI)(kU:ada):(iz W w.heap.size x kU).heap[w.heap.size]?=some (apJ x kU)∧av w w (iz W w.heap.size x kU):=
 ⟨apN (apM (apL (apK h.a _) _) _) _,(((h.b.setCell (bD _) _).setCell (bD _) _).setCell (bD _) _).setCell (bD _) _⟩
theorem I5{cs:agv}(h:bo W b cs 259)(x:eI)(kU:ada):kS 259 W (iz W b x kU):=by have step:∀{V:bTo} {cs:agv} (i:Nat) (u:ada),bo V b cs 259→kS 259 V (V.setCell (ag b i) u)∧∃iw,(V.setCell (ag b i) u).heap[b]?=some (.cells iw 259):=fun i u aS=>⟨.set aS u,_,kA aS i u⟩;obtain⟨b6,_,aQ⟩:=step 0 (I x.k) h;obtain⟨bP,_,aa⟩:=step 1 (I x.n) aQ;obtain⟨a8,_,ah⟩:=step 2 (au ⟨x.t.toArray⟩) aa;obtain⟨oi,_,ax⟩:=step 3 kU ah;exact ((b6.trans bP).trans a8).trans oi
def Wd(res:Except Nat eI)(w:bTo)(e:Ending)(w':bTo):Prop:=Below w.heap.size w w'∧match res with
 |.ok b=>∃q k,e=bb (.tuple #[kV b (ad q b.args.length k),I 0])∧mH w.heap.size w' q b.args
 |.error n=>e=bb (.tuple #[kV cf.bX cc,I (n:Int)])
theorem We(l:bk){c:UInt8}(hc:c≠0):decide (l.take 1=[c])=decide (l.headD 0=c):=by
 cases l with
 |nil=>rw[eD (by simp),eD (by simpa using hc.symm)]
 |cons a l=>simp
theorem apO(l:List (Int×Int))(i:Nat)(hi:i<l.length):(sJ l)[i *2]?=some (I l[i].1)∧(sJ l)[i *2+1]?=some (I l[i].2):=by
 induction l generalizing i with
 |nil=>exact absurd hi (l7 _)
 |cons o l dc=>
  have e:sJ (o::l)=[I o.1,I o.2] ++sJ l:=rfl;cases i with
  |zero=>rw[e];exact⟨rfl,rfl⟩
  |succ i=>
   have:=dc i (BC hi);rw[e,show (i+1) *2=i *2+1+1 by omega,show i *2+1+1+1=(i *2+1)+1+1 by omega];simpa using this
theorem adI{v:ada}{l:List (Int×Int)}(h:w.ownsRow B 413 2 v l.length (sJ l)):∃p c,v=ad p l.length c∧o0 B w p l:=by
 rcases h.2 with ⟨aa,ah⟩|⟨g,c,cur,aa,ah,ax,bg,b7,c0,ea⟩
 ·exact⟨none,0,by rw[aa,ah],fun aj=>absurd aj (by omega)⟩
 ·refine⟨_,c,aa,fun aj=>⟨g,0,cur,rfl,ah,ax,fun i hi=>?_⟩⟩;have key:∀j,j<l.length *2→cur[j]?=(sJ l)[j]?:=(fun j cB=>by rw[←ea,I1 cB,zJ]);obtain⟨g1,g2⟩:=apO l i hi;rw[lk,key _ (by omega),key _ (by omega)];exact⟨g1,g2⟩
theorem apP(S:aia)(hs:S.size≤1000000000)(res:Except Nat eI)(hr:J (Ke S.data.toList=res))(w:bTo):
  Calls Tryz.prog 180 #[au S] w (Wd res w):=by
 have cF:=U hs;have aj:=hr.out;unfold Ke at aj;obtain⟨o,bl⟩:=adF S.data.toList;rw[bl] at aj;have b':=U bl;clear hr hs;have aV:J (xf w (w.alloc (aD (#[I 0,I 0,au ⟨#[]⟩,ay 0]) 259))):=Wc w;go_enter Tryz.func180,Tryz.ntmps180;go_upto_region 1 with fail;generalize w.alloc (.cells #[I 0,I 0,au ⟨#[]⟩,ay 0] 259)=W at aV⊢;go_wp2_with fail;go_fit (FD S cF.out o b' _);rintro e ct ⟨he,hd⟩;have fc:=U (aV.out.below (mn hd));clear hd aV;have aV:=fc;clear fc;cases o with
 |none=>
  have a7:J (Except.error 3=res):=aj;unfold MA at he;simp only[] at he;subst he;clear aj bl b';obtain⟨⟨aJ,aI,c2,c3⟩,f0,f1,f2,f3⟩:=hT aV.out.a;have aE:=U (qx aV.out cf.bX cc);go_wp2_with fail;refine dH (w:=iz ct w.heap.size cf.bX cc) (v:=.tuple #[kV cf.bX cc,I 3]) ?_ rfl ?_
  ·clear aJ aI c2 c3 f0 f1 f2 f3;generalize iz ct w.heap.size cf.bX cc=fB at aE⊢;obtain⟨⟨aJ,aI,c2,c3⟩,_⟩:=hT aE.out.1;simp[results,Mz,go_sem,aJ,aI,c2,c3]<;>rfl
  ·rw[←a7.out];exact⟨aE.out.2,rfl⟩
 |some x=>
  obtain⟨D,R⟩:=x;unfold MA at he;simp only[] at he;subst he;obtain⟨ym,gQ,fV,qv⟩:=adH bl;rw[cR,cR] at fV qv;have fV:D.size≤S.size:=fV;have qv:R.size≤S.size:=qv;simp only[CX] at aj;rw[cR] at aj;clear bl b';by_cases ah:2<D.size
  ·rw[aT (.inl ah)] at aj;have a7:J (Except.error 3=res):=aj;have Wb:(2:Int)<(D.size:Int):=(by omega);clear aj ym gQ fV qv ah;obtain⟨⟨aJ,aI,c2,c3⟩,f0,f1,f2,f3⟩:=hT aV.out.a;have aE:=U (qx aV.out cf.bX cc);go_wp2_with fail;refine dH (w:=iz ct w.heap.size cf.bX cc) (v:=.tuple #[kV cf.bX cc,I 3]) ?_ rfl ?_
   ·clear aJ aI c2 c3 f0 f1 f2 f3;generalize iz ct w.heap.size cf.bX cc=fB at aE⊢;obtain⟨⟨aJ,aI,c2,c3⟩,_⟩:=hT aE.out.1;simp[results,Mz,go_sem,aJ,aI,c2,c3]<;>rfl
   ·rw[←a7.out];exact⟨aE.out.2,rfl⟩
  ·have Wb:¬(2:Int)<(D.size:Int):=(by omega);have ho:J (decide (R.data.toList.take (⟨#[61]⟩:aia).data.toList.length=(⟨#[61]⟩:aia).data.toList)=decide (R.data.toList.headD 0=61)):=We _ (by decide);by_cases DO:R.data.toList.headD 0=61
   ·rw[aK (by rintro (h|h);exact ah h;exact h DO)] at aj
    have BU:0<R.size:=by
     rw[←cR];cases aC:R.data.toList with
     |nil=>rw[aC] at DO;exact absurd DO (by decide)
     |cons a b=>simp
    have dp:R.data.toList.drop 1=(R.extract 1 R.size).data.toList:=(nd R 1).symm;rw[dp] at aj;have yP:J ((R.extract 1 R.size).size≤maxLen):=(by show _≤_;rw[←cR,nd,gZ,cR];have:=cF.out;unfold maxLen;omega);obtain⟨⟨l,a,e⟩,hp⟩:=az (xy.zb (R.extract 1 R.size).data.toList);have bL:=U hp;rw[hp] at aj;simp only[] at aj;obtain⟨n,hn⟩:=az (val D.data.toList:Int);have cI:=U (And.intro ym (And.intro gQ (And.intro (show D.size≤18 by omega) hn)));have h4:(1:Int)≤(R.size:Int):=(by omega);rw[hn] at aj;have dR:=U aj;rw[eH DO] at ho;clear aj ym gQ fV qv ah DO dp hp hn BU;go_wp2_with fail;go_fit (yp _ _ _ ho _);rintro e dJ ⟨rfl,rfl⟩;go_wp2_with fail;go_fit (apI D cI.out.1 cI.out.2.1 cI.out.2.2.1 n cI.out.2.2.2 _);rintro e cb ⟨rfl,gB⟩;have A':=U (aV.out.below gB);clear gB aV;go_wp2_with fail;go_fit (abG (R.extract 1 R.size) yP.out _ l a e bL);rintro lf bt ⟨v,rfl,aS,dT⟩;obtain⟨p,c,rfl,MB⟩:=adI aS;have aV:=U (A'.out.below dT);have Wf:=U (MB.mono A'.out.b.size);clear dT aS MB A';by_cases he:e=0
    ·subst he;have a7:J (Except.ok ⟨2,n,[],[l]⟩=res):=dR.out;clear dR;have yN:J (xf w (bt.alloc (aD (#[ad p l.length c]) 345))):=aV.out.below ((Below.refl _ _).alloc (bD _) _);have My:J (mH w.heap.size (bt.alloc (aD (#[ad p l.length c]) 345)) (some (ag bt.heap.size 0)) [l]):=(by intro _;refine⟨bt.heap.size,0,_,rfl,aV.out.b.size,gi bt _,fun i hi=>?_⟩;have ax:i=0:=(by simp at hi;omega);subst ax;exact⟨p,c,rfl,Wf.out.keep (T:=0) (.dM ((Below.refl _ _).alloc (bD _) _)) (by decide)⟩);have s7:=U (I5 yN.out.a ⟨2,n,[],[l]⟩ (bG bt.heap.size 0 1 1));have aE:=U (qx yN.out ⟨2,n,[],[l]⟩ (bG bt.heap.size 0 1 1));obtain⟨⟨aJ,aI,c2,c3⟩,f0,f1,f2,f3⟩:=hT yN.out.a;clear aV;go_wp2_with fail;refine dH (w:=iz (bt.alloc (aD (#[ad p l.length c]) 345)) w.heap.size ⟨2,n,[],[l]⟩ (bG bt.heap.size 0 1 1)) (v:=.tuple #[kV ⟨2,n,[],[l]⟩ (bG bt.heap.size 0 1 1),I 0]) ?_ rfl ?_
     ·clear aJ aI c2 c3 f0 f1 f2 f3 s7;generalize iz (bt.alloc (aD (#[ad p l.length c]) 345)) w.heap.size ⟨2,n,[],[l]⟩ (ad (some (ag bt.heap.size 0)) 1 1)=fB at aE⊢;obtain⟨⟨aJ,aI,c2,c3⟩,_⟩:=hT aE.out.1;simp[results,Mz,go_sem,aJ,aI,c2,c3]<;>rfl
     ·rw[←a7.out];exact⟨aE.out.2,_,_,rfl,My.out.keep s7.out (by decide) (by decide)⟩
    ·have MC:((e:Int) !=0)=true:=(by simp;omega);have a7:J (Except.error e=res):=(by show _=_;rw[←dR.out,aT he]);clear dR he;obtain⟨⟨aJ,aI,c2,c3⟩,f0,f1,f2,f3⟩:=hT aV.out.a;have aE:=U (qx aV.out cf.bX cc);go_wp2_with fail;refine dH (w:=iz bt w.heap.size cf.bX cc) (v:=.tuple #[kV cf.bX cc,I (e:Int)]) ?_ rfl ?_
     ·clear aJ aI c2 c3 f0 f1 f2 f3;generalize iz bt w.heap.size cf.bX cc=fB at aE⊢;obtain⟨⟨aJ,aI,c2,c3⟩,_⟩:=hT aE.out.1;simp[results,Mz,go_sem,aJ,aI,c2,c3]<;>rfl
     ·rw[←a7.out];exact⟨aE.out.2,rfl⟩
   ·rw[aT (.inr DO)] at aj;have a7:J (Except.error 3=res):=aj;rw[eD DO] at ho;clear aj ym gQ fV qv ah DO;go_wp2_with fail;go_fit (yp _ _ _ ho _);rintro e dJ ⟨rfl,rfl⟩;obtain⟨⟨aJ,aI,c2,c3⟩,f0,f1,f2,f3⟩:=hT aV.out.a;have aE:=U (qx aV.out cf.bX cc);go_wp2_with fail;refine dH (w:=iz ct w.heap.size cf.bX cc) (v:=.tuple #[kV cf.bX cc,I 3]) ?_ rfl ?_
    ·clear aJ aI c2 c3 f0 f1 f2 f3;generalize iz ct w.heap.size cf.bX cc=fB at aE⊢;obtain⟨⟨aJ,aI,c2,c3⟩,_⟩:=hT aE.out.1;simp[results,Mz,go_sem,aJ,aI,c2,c3]<;>rfl
    ·rw[←a7.out];exact⟨aE.out.2,rfl⟩
inductive ue(B:Nat)(w:bTo):List (List (Int×Int))→bTv→Prop
 |nil:ue B w [] []
 |cons {x:List (Int×Int)} {l:List (List (Int×Int))} {q:aya} {k:Nat} {xs:bTv}:o0 B w q x→ue B w l xs→ue B w (x::l) (ad q x.length k::xs)
theorem ue.keep{T:aui}{B:Nat}{w w':bTo}{l:List (List (Int×Int))}{xs:bTv}(h:ue B w l xs)(ab:kS T w w')(fh:413≠T):ue B w' l xs:=by
 induction h with
 |nil=>exact .nil
 |cons a _ dc=>exact .cons (a.keep ab fh) dc
variable{xs:bTv}
theorem ue.snoc{l:List (List (Int×Int))}(h:ue B w l xs){x:List (Int×Int)}{q:aya}(k:Nat)(hx:o0 B w q x):ue B w (l++[x]) (xs++[ad q x.length k]):=by
 induction h with
 |nil=>exact .cons hx .nil
 |cons a _ dc=>exact .cons a dc
theorem ue.get{l:List (List (Int×Int))}(h:ue B w l xs):∀(i:Nat) (hi:i<l.length),∃q c,xs[i]?=some (.slice q l[i].length c)∧o0 B w q l[i]:=by
 induction h with
 |nil=>exact fun i hi=>absurd hi (l7 _)
 |cons a _ dc=>
  intro i hi;cases i with
  |zero=>exact⟨_,_,rfl,a⟩
  |succ i=>exact dc i (BC hi)
theorem apQ{v:ada}{l:List (List (Int×Int))}{xs:bTv}(h:w.ownsRow B 345 1 v l.length xs)(ha:ue B w l xs):∃p c,v=ad p l.length c∧mH B w p l:=by
 rcases h.2 with ⟨aa,ah⟩|⟨g,c,cur,aa,ah,ax,bg,b7,c0,ea⟩
 ·exact⟨none,0,by rw[aa,ah],fun aj=>absurd aj (by omega)⟩
 ·refine⟨_,c,aa,fun aj=>⟨g,0,cur,rfl,ah,ax,fun i hi=>?_⟩⟩;obtain⟨q,k,g1,g2⟩:=ha.get i hi;refine⟨q,k,?_,g2⟩;rw[lk,←zJ,←g1,←ea,I1 (by omega)]
structure DP(w:bTo)(b:Nat)(n:Int)(kU:ada)(acc:List (List (Int×Int)))(W:bTo):Prop where
 gt:w.heap.size<b
 r:W.heap[w.heap.size]?=some QI
 nC:bo W b (#[I 3,I n,au ⟨#[]⟩,kU]) 259
 row:∃xs,W.ownsRow w.heap.size 345 1 kU acc.length xs∧ue w.heap.size W acc xs
 aY:av w w W
theorem DP.below{ng:bTo}{n:Int}{kU:ada}{acc:List (List (Int×Int))}(h:DP w b n kU acc W)(af:av W W ng):DP w b n kU acc ng:=by obtain⟨xs,aa,ah⟩:=h.row;exact⟨h.gt,aO h.r af,aO h.nC af,⟨xs,fE aa af,ah.keep (T:=0) (.dM af) (by decide)⟩,h.aY.trans (af.mono h.aY.size)⟩
theorem DP.push{X bE:bTo}{n:Int}{kU v':ada}{acc:List (List (Int×Int))}{l:List (Int×Int)}{q:aya}{k:Nat}(h:DP w b n kU acc W)(hx:W.ownsRow w.heap.size 345 1 kU acc.length xs)(ha:ue w.heap.size W acc xs)(dp:av W W X)(aX:X.grownBy bE kU.ownBlock)(bl:bE.ownsRow w.heap.size 345 1 v' (acc.length+1) (xs++[ad q l.length k]))(aj:o0 w.heap.size W q l):
  DP w b n v' (acc++[l]) (bE.setCell (ag b 3) v')∧bo bE b (#[I 3,I n,au ⟨#[]⟩,kU]) 259:=by
 have aa:=h.below dp;have mm:=fE hx dp;have lt:∀{k:Nat} {o:Obj},X.heap[k]?=some o→k<X.heap.size:=fun ab=>(Array.getElem?_eq_some_iff.1 ab).1;have hr:bE.heap[w.heap.size]?=some QI:=(aX.block _ (lt aa.r) (fN (oR mm aa.r (by decide)))).trans aa.r;have hp:bo bE b (#[I 3,I n,au ⟨#[]⟩,kU]) 259:=(aX.block _ (lt aa.nC) (fN (oR mm aa.nC (by decide)))).trans aa.nC;have hK:kS 345 W bE:=(kS.dM dp).trans (.grown mm aX);have apR:kS 259 bE (bE.setCell (ag b 3) v'):=.set hp v';refine⟨⟨h.gt,?_,?_,⟨_,?_,((ha.keep hK (by decide)).snoc k (aj.keep hK (by decide))).keep apR (by decide)⟩,?_⟩,hp⟩
 ·exact (jZ _ _ _ _ (by show w.heap.size≠b;have:=h.gt;omega)).trans hr
 ·rw[kA hp];rfl
 ·rw[show (acc++[l]).length=acc.length+1 by simp];exact tU bl hp (by decide) _
 ·exact ((aa.aY.grown aX aa.aY.size (fun k ab=>(mm.lt _ ab).1))).setCell (CY h.gt) _
def MD(n:Int):Except Nat (List (List (Int×Int)))→Except Nat eI
 |.error e=>.error e
 |.ok l=>if pk n l.length=true then .ok ⟨3,n,[],l⟩ else .error 3
theorem adJ(f:Nat)(s:bk)(acc:List (List (Int×Int))):zs (f+1) s acc=if acc.length=1100 then .error 6 else match xy.zb (eT 44 s).1 with
 |(l,_,e)=>if e≠0 then .error e else if (eT 44 s).2.2=true then zs f (eT 44 s).2.1 (acc++[l]) else .ok (acc++[l]):=rfl
theorem apS(h:wt s=some (d,r))(s8:r.headD 0=44)(hp:rn d≠0):wu s=MD (rn d) (zs (r.length+1) (r.drop 1) []):=by unfold wu;rw[h];simp only[];rw[aK (fun aF=>aF s8),aK hp];cases zs (r.length+1) (r.drop 1) []<;>rfl
theorem apT(h:wt s=some (d,r))(s8:r.headD 0=44)(hp:rn d=0):wu s=.error 8:=by unfold wu;rw[h];simp only[];rw[aK (fun aF=>aF s8),aT hp]
theorem apU(h:wt s=some (d,r))(s8:r.headD 0≠44):wu s=.error 3:=by unfold wu;rw[h];simp only[];rw[aT s8]
theorem apV(h:wt s=none):wu s=.error 3:=by unfold wu;rw[h]
theorem apW(d:bk)(h:rn d≠0):rn d=1∨rn d=4∨rn d=7∨rn d=20∨rn d=21:=by
 unfold rn at h⊢;split
 ·exact .inl rfl
 ·split
  ·exact .inr (.inl rfl)
  ·split
   ·exact .inr (.inr (.inl rfl))
   ·split
    ·exact .inr (.inr (.inr (.inl rfl)))
    ·split
     ·exact .inr (.inr (.inr (.inr rfl)))
     ·rename_i aa ah ax bg b7;rw[aK aa,aK ah,aK ax,aK bg,aK b7] at h;exact absurd rfl h
theorem apX:(Tryz.prog.info? 345).map (fun i=>(i.zero,i.size,i.bytes))=some (some (ay 0),1,24):=by kernel_rfl
theorem apY(S:aia)(hs:S.size≤1000000000)(res:Except Nat eI)(hr:J (wu S.data.toList=res))(w:bTo):
  Calls Tryz.prog 181 #[au S] w (Wd res w):=by
 have cF:=U hs;have aj:=hr.out;obtain⟨o,bl⟩:=adF S.data.toList;have b':=U bl;clear hr hs;have aV:J (xf w (w.alloc (aD (#[I 0,I 0,au ⟨#[]⟩,ay 0]) 259))):=Wc w;go_enter Tryz.func181,Tryz.ntmps181;go_upto_region 1 with fail;generalize w.alloc (.cells #[I 0,I 0,au ⟨#[]⟩,ay 0] 259)=W at aV⊢;go_wp2_with fail;go_fit (FD S cF.out o b' _);rintro e ct ⟨he,hd⟩;have fc:=U (aV.out.below (mn hd));clear hd aV;have aV:=fc;clear fc;cases o with
 |none=>
  have a7:J (Except.error 3=res):=(by show _=_;rw[←aj,apV bl]);unfold MA at he;simp only[] at he;subst he;clear aj bl b';obtain⟨⟨aJ,aI,c2,c3⟩,f0,f1,f2,f3⟩:=hT aV.out.a;have aE:=U (qx aV.out cf.bX cc);go_wp2_with fail;refine dH (w:=iz ct w.heap.size cf.bX cc) (v:=.tuple #[kV cf.bX cc,I 3]) ?_ rfl ?_
  ·clear aJ aI c2 c3 f0 f1 f2 f3;generalize iz ct w.heap.size cf.bX cc=fB at aE⊢;obtain⟨⟨aJ,aI,c2,c3⟩,_⟩:=hT aE.out.1;simp[results,Gh,go_sem,aJ,aI,c2,c3]<;>rfl
  ·rw[←a7.out];exact⟨aE.out.2,rfl⟩
 |some x=>
  obtain⟨D,R⟩:=x;unfold MA at he;simp only[] at he;subst he;obtain⟨ym,gQ,fV,qv⟩:=adH bl;rw[cR,cR] at fV qv;have fV:D.size≤S.size:=fV;have qv:R.size≤S.size:=qv;simp only[CX] at bl;have ho:J (decide (R.data.toList.take (⟨#[44]⟩:aia).data.toList.length=(⟨#[44]⟩:aia).data.toList)=decide (R.data.toList.headD 0=44)):=We _ (by decide);by_cases s8:R.data.toList.headD 0=44
  ·rw[eH s8] at ho
   have BU:0<R.size:=by
    rw[←cR];cases aC:R.data.toList with
    |nil=>rw[aC] at s8;exact absurd s8 (by decide)
    |cons a b=>simp
   have h4:(1:Int)≤(R.size:Int):=(by omega);obtain⟨n,hn⟩:=az (rn D.data.toList);have a1:=U hn
   have aH:J (DP w ct.heap.size n cc [] (ct.alloc (aD (#[I 3,I n,au ⟨#[]⟩,ay 0]) 259))):=
    ⟨(Array.getElem?_eq_some_iff.1 aV.out.a).1,aO aV.out.a ((Below.refl _ _).alloc (bD _) _),gi ct _,⟨[],Mv _ _ _ _,.nil⟩,aV.out.b.alloc aV.out.b.size _⟩
   have cV:J (n=0→res=.error 8):=(fun h=>by rw[←aj,apT bl s8 (by rw[hn];exact h)]);have cq:J (n≠0→MD n (zs (R.size+1) (R.extract 1 R.size).data.toList [])=res):=(fun h=>by rw[←aj,apS bl s8 (by rw[hn];exact h),hn,cR,nd]);have cd:J (n≠0→n=1∨n=4∨n=7∨n=20∨n=21):=(fun h=>by rw[←hn];exact apW _ (by rw[hn];exact h));have qP:J ((R.extract 1 R.size).size<R.size+1∧R.size≤1000000000):=(by refine⟨?_,by have:=cF.out;omega⟩;rw[←cR,nd,gZ,cR];omega);clear aj bl b' ym gQ fV qv s8 hn BU;generalize pL:ct.heap.size=ei at aH;go_wp2_with fail;go_fit (yp _ _ _ ho _);rintro e dJ ⟨rfl,rfl⟩;go_wp2_with fail;go_fit (apE D n a1 _);rintro e cb ⟨rfl,rfl⟩;go_upto_region 5 with fail;generalize ct.alloc _=ez at aH⊢;clear aV pL;by_cases aQ:n=0
   ·have a7:J (Except.error 8=res):=(cV.out aQ).symm;have n0:(n==0)=true:=(by simp[aQ]);obtain⟨⟨d0,d1,d2,d3⟩,g0,g1,g2,g3⟩:=hT aH.out.nC;have aV:J (xf w ez):=⟨aH.out.r,aH.out.aY⟩;clear aQ cV cq cd;obtain⟨⟨aJ,aI,c2,c3⟩,f0,f1,f2,f3⟩:=hT aV.out.a;have aE:=U (qx aV.out cf.bX cc);go_wp2_with fail;refine dH (w:=iz ez w.heap.size cf.bX cc) (v:=.tuple #[kV cf.bX cc,I 8]) ?_ rfl ?_
    ·clear aJ aI c2 c3 f0 f1 f2 f3;generalize iz ez w.heap.size cf.bX cc=fB at aE⊢;obtain⟨⟨aJ,aI,c2,c3⟩,_⟩:=hT aE.out.1;simp[results,Gh,go_sem,aJ,aI,c2,c3]<;>rfl
    ·rw[←a7.out];exact⟨aE.out.2,rfl⟩
   ·have n0:(n==0)=false:=(by simp[aQ]);have br:=U (cq.out aQ);have Fb:=U (cd.out aQ);obtain⟨⟨d0,d1,d2,d3⟩,g0,g1,g2,g3⟩:=hT aH.out.nC;clear aQ cV cq cd;go_upto_region 9 with fail;clear d0 d1 d2 d3 g0 g1 g2 g3
    go_loopw [5,8] (fun l s wr=>∃(f:Nat) (h7:aia) (yO:Bool) (acc:List (List (Int×Int))) (kU:ada),l=au h7∧s=ai yO∧J (DP w ei n kU acc wr)∧J (h7.size≤1000000000)∧J (yO=true→h7.size<f)∧J (acc.length≤1100)∧J (MD n (if yO=true then zs f h7.data.toList acc else .ok acc)=res)) (fun l s _=>QH s *(Lib.strSize l+1))
    case atStart=>exact⟨R.size+1,R.extract 1 R.size,true,[],cc,rfl,rfl,aH,(by have:=qP.out;show _≤_;omega),fun _=>qP.out.1,eC _,br⟩
    case round=>
     obtain⟨f,h7,yO,acc,kU,rfl,rfl,aH,Gf,hM,e9,br⟩:=hrel;obtain⟨xs,hx,ha⟩:=aH.out.row;obtain⟨p,cap,rfl,vF⟩:=apQ hx ha;have cV:=U hx;have b8:=U ha;have BV:=U vF;have K9:acc.length≤1100:=e9.out;clear hx ha vF;obtain⟨⟨d0,d1,d2,d3⟩,g0,g1,g2,g3⟩:=hT aH.out.nC;have aV:J (xf w wr):=⟨aH.out.r,aH.out.aY⟩;cases yO with
     |false=>
      obtain⟨b,af⟩:=az (pk n acc.length);have I6:=U af;have hr:=br.out;rw[aK (by decide)] at hr;unfold MD at hr;simp only[] at hr;rw[af] at hr;clear af br;go_wp2_with fail;go_fit (apF n acc.length p cap b Fb.out e9.out I6 _);rintro e bt ⟨rfl,dT⟩;have ek:=U (aH.out.below dT);have apZ:=U (BV.out.keep (.dM (T:=0) dT) (by decide) (by decide));have yR:=U (aV.out.below dT);clear dT aV aH d0 d1 d2 d3 g0 g1 g2 g3 cV b8 BV;have aV:=yR;clear yR;obtain⟨⟨d0,d1,d2,d3⟩,g0,g1,g2,g3⟩:=hT ek.out.nC;cases b with
      |false=>
       have a7:J (Except.error 3=res):=hr;clear hr;obtain⟨⟨aJ,aI,c2,c3⟩,f0,f1,f2,f3⟩:=hT aV.out.a;have aE:=U (qx aV.out cf.bX cc);go_wp2_with fail;refine dH (w:=iz bt w.heap.size cf.bX cc) (v:=.tuple #[kV cf.bX cc,I 3]) ?_ rfl ?_
       ·clear aJ aI c2 c3 f0 f1 f2 f3;generalize iz bt w.heap.size cf.bX cc=fB at aE⊢;obtain⟨⟨aJ,aI,c2,c3⟩,_⟩:=hT aE.out.1;simp[results,Gh,go_sem,aJ,aI,c2,c3]<;>rfl
       ·rw[←a7.out];exact⟨aE.out.2,rfl⟩
      |true=>
       have a7:J (Except.ok ⟨3,n,[],acc⟩=res):=hr;clear hr;have s7:=U (I5 aV.out.a ⟨3,n,[],acc⟩ (ad p acc.length cap));have aE:=U (qx aV.out ⟨3,n,[],acc⟩ (ad p acc.length cap));obtain⟨⟨aJ,aI,c2,c3⟩,f0,f1,f2,f3⟩:=hT aV.out.a;go_wp2_with fail;refine dH (w:=iz bt w.heap.size ⟨3,n,[],acc⟩ (ad p acc.length cap)) (v:=.tuple #[kV ⟨3,n,[],acc⟩ (ad p acc.length cap),I 0]) ?_ rfl ?_
       ·clear aJ aI c2 c3 f0 f1 f2 f3 d0 d1 d2 d3 g0 g1 g2 g3 s7;generalize iz bt w.heap.size ⟨3,n,[],acc⟩ (ad p acc.length cap)=fB at aE⊢;obtain⟨⟨aJ,aI,c2,c3⟩,_⟩:=hT aE.out.1;simp[results,Gh,go_sem,aJ,aI,c2,c3]<;>rfl
       ·rw[←a7.out];exact⟨aE.out.2,_,_,rfl,apZ.out.keep s7.out (by decide) (by decide)⟩
     |true=>
      obtain⟨g,rfl⟩:∃g,f=g+1:=⟨f-1,by have:=hM.out rfl;omega⟩;have fv:J (h7.size<g+1):=hM.out rfl;clear hM;have hr:=br.out;rw[aT rfl,adJ] at hr;by_cases hm:acc.length=1100
      ·rw[aT hm] at hr;have a7:J (Except.error 6=res):=hr;have ap0:((acc.length:Int)==1100)=true:=(by simp;omega);clear hr hm br;obtain⟨⟨aJ,aI,c2,c3⟩,f0,f1,f2,f3⟩:=hT aV.out.a;have aE:=U (qx aV.out cf.bX cc);go_wp2_with fail;refine dH (w:=iz wr w.heap.size cf.bX cc) (v:=.tuple #[kV cf.bX cc,I 6]) ?_ rfl ?_
       ·clear aJ aI c2 c3 f0 f1 f2 f3;generalize iz wr w.heap.size cf.bX cc=fB at aE⊢;obtain⟨⟨aJ,aI,c2,c3⟩,_⟩:=hT aE.out.1;simp[results,Gh,go_sem,aJ,aI,c2,c3]<;>rfl
       ·rw[←a7.out];exact⟨aE.out.2,rfl⟩
      ·rw[aK hm] at hr;have ap0:((acc.length:Int)==1100)=false:=(by simp;omega);obtain⟨iv,hA2⟩:=kz (eT 44 h7.data.toList).1;obtain⟨hI,nf⟩:=kz (eT 44 h7.data.toList).2.1;obtain⟨bc,eb⟩:=az ((eT 44 h7.data.toList).2.2);have b9:J (eT 44 h7.data.toList=(iv.data.toList,hI.data.toList,bc)):=(by show _=_;rw[hA2,nf,←eb]);have eW:J (iv.size≤h7.size∧hI.size≤h7.size∧(bc=true→hI.size<h7.size)):=(by have aa:=IX 44 h7.data.toList;have ah:=IY 44 h7.data.toList;have ax:=fun h=>adE (c:=44) (l:=h7.data.toList) h;rw[←hA2,cR,cR] at aa;rw[←nf,cR,cR] at ah;rw[←nf,cR,cR,eb] at ax;exact⟨aa,ah,ax⟩);rw[←hA2,←nf,eb] at hr;obtain⟨⟨l,a,e⟩,hp⟩:=az (xy.zb iv.data.toList);have bL:=U hp;rw[hp] at hr;simp only[] at hr;have eg:=U hr;clear hr hp hA2 nf eb br cV b8 BV aV;go_wp2_with fail;go_fit (IW h7 Gf.out 44 iv hI bc b9 _);rintro mC bt ⟨rfl,hd⟩;have ek:=U (aH.out.below (mn hd));clear hd aH d0 d1 d2 d3 g0 g1 g2 g3;go_wp2_with fail;go_fit (abG iv (dX (dX eW.out.1 Gf.out) (by decide)) _ l a e bL);rintro lf cX ⟨v,rfl,aS,eQ⟩;obtain⟨lv,b1,rfl,MB⟩:=adI aS;have aH:=U (ek.out.below eQ);have Wf:=U (MB.mono ek.out.aY.size);clear eQ aS MB ek;by_cases he:e=0
       ·subst he;have lN:J (MD n (if bc=true then zs g hI.data.toList (acc++[l]) else .ok (acc++[l]))=res):=eg.out;clear eg;obtain⟨xs,hx,ha⟩:=aH.out.row;have cV:=U hx;have b8:=U ha;clear hx ha;obtain⟨⟨d0,d1,d2,d3⟩,g0,g1,g2,g3⟩:=hT aH.out.nC;obtain⟨i0,lg,cU,cW,dz⟩:=info_parts apX;have bY:=U (And.intro lg (And.intro cU (And.intro cW dz)));clear lg cU cW dz;go_wp2_with (at_builtin;refine yi _ rfl _ _ _ rfl w.heap.size 345 i0 (ay 0) 1 24 Tryz.underlying257 bY.out.1 bY.out.2.1 bY.out.2.2.1 bY.out.2.2.2 rfl (by omega) (ad p acc.length cap) acc.length (xs) (by rfl) (cV.out.alloc _) (ag ((cX).heap.size) 0) 1 1 [ad lv l.length b1] (by rfl) rfl (jW (gi (cX) _)) (by simp[Value.oneCell']) (by unfold maxLen;omega) (by omega) (by have:=aH.out.aY.size;simp<;>omega) ?_;intro v' w' gX i' pJ;obtain⟨g',mE,rfl,_,_⟩:=gX.form (by omega);obtain⟨Mx,sg⟩:=aH.out.push (l:=l) (q:=lv) (k:=b1) (v':=ad (some (ag g' 0)) (acc.length+1) mE) cV.out b8.out ((Below.refl _ _).alloc (bD _) _) i' gX Wf.out;have My:=U Mx;have V':aw w' ei 3 _:=Ge w' ei 3 _ _ (0,0) sg;have Wa:w'.frozen? ⟨ei,3,none⟩=false:=(by simp[World.frozen?,sg]);clear Mx sg;clear gX i' pJ);clear d0 d1 d2 d3 g0 g1 g2 g3;go_round
        case rel=>exact⟨g,hI,bc,acc++[l],_,rfl,rfl,My,dX eW.out.2.1 Gf.out,(fun h=>by have:=fv.out;have:=eW.out.2.2 h;omega),(by show (acc++[l]).length≤_;rw[gh];simp only[I2];omega),lN⟩
        case measure=>
         show QH (ai bc) *(hI.size+1)<1 *(h7.size+1);have:=eW.out.2.2;cases bc with
         |false=>show 0 *(hI.size+1)<1 *(h7.size+1);omega
         |true=>show 1 *(hI.size+1)<1 *(h7.size+1);have:=this rfl;omega
       ·have MC:((e:Int) !=0)=true:=(by simp;omega);have a7:J (Except.error e=res):=(by show _=_;rw[←eg.out,aT he];rfl);have aV:J (xf w cX):=⟨aH.out.r,aH.out.aY⟩;clear eg he;obtain⟨⟨aJ,aI,c2,c3⟩,f0,f1,f2,f3⟩:=hT aV.out.a;have aE:=U (qx aV.out cf.bX cc);go_wp2_with fail;refine dH (w:=iz cX w.heap.size cf.bX cc) (v:=.tuple #[kV cf.bX cc,I (e:Int)]) ?_ rfl ?_
        ·clear aJ aI c2 c3 f0 f1 f2 f3;generalize iz cX w.heap.size cf.bX cc=fB at aE⊢;obtain⟨⟨aJ,aI,c2,c3⟩,_⟩:=hT aE.out.1;simp[results,Gh,go_sem,aJ,aI,c2,c3]<;>rfl
        ·rw[←a7.out];exact⟨aE.out.2,rfl⟩
  ·have a7:J (Except.error 3=res):=(by show _=_;rw[←aj,apU bl s8]);rw[eD s8] at ho;clear aj ym gQ fV qv s8 bl b';go_wp2_with fail;go_fit (yp _ _ _ ho _);rintro e dJ ⟨rfl,rfl⟩;obtain⟨⟨aJ,aI,c2,c3⟩,f0,f1,f2,f3⟩:=hT aV.out.a;have aE:=U (qx aV.out cf.bX cc);go_wp2_with fail;refine dH (w:=iz ct w.heap.size cf.bX cc) (v:=.tuple #[kV cf.bX cc,I 3]) ?_ rfl ?_
   ·clear aJ aI c2 c3 f0 f1 f2 f3;generalize iz ct w.heap.size cf.bX cc=fB at aE⊢;obtain⟨⟨aJ,aI,c2,c3⟩,_⟩:=hT aE.out.1;simp[results,Gh,go_sem,aJ,aI,c2,c3]<;>rfl
   ·rw[←a7.out];exact⟨aE.out.2,rfl⟩
end jj
