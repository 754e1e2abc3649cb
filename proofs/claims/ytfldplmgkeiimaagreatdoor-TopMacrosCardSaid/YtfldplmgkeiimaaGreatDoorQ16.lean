/- Lemmas. -/
import Derived.Test.YtfldplmgkeiimaaGreatDoorQ3
set_option linter.all false
set_option maxRecDepth 100000
set_option maxHeartbeats 3200000
namespace Go.Proofs.YtfldplmgkeiimaaGreatDoor
abbrev TP:=@Nat.sub_self
abbrev zD:=@Proofs.Tryz.func318
abbrev zE:=@Proofs.Tryz.ntmps318
namespace p1
open Go.RowKit j6 ny vF Mem
theorem HN(X:Int)(b:Bool)(ay:af ((decide (48≤X)&&decide (X≤57))=b))(w:aeo):
  Calls Tryz.prog 330 #[.int .u8 X] w fun e w'=>e=ab (U b)∧w=w':=by
 by_cases av:48≤X
 ·by_cases az:X≤57
  ·obtain rfl:true=b:=(by rw[←ay.out];simp[av,az]);go_enter Tryz.func330,Tryz.ntmps330;go_wp2_with fail;go_ret;exact⟨rfl,rfl⟩
  ·obtain rfl:false=b:=(by rw[←ay.out];simp[az]);go_enter Tryz.func330,Tryz.ntmps330;go_wp2_with fail;go_ret;exact⟨rfl,rfl⟩
 ·obtain rfl:false=b:=(by rw[←ay.out];simp[av]);go_enter Tryz.func330,Tryz.ntmps330;go_wp2_with fail;go_ret;exact⟨rfl,rfl⟩
variable{S:Ua}{i k:Nat}
theorem HO(h:i<S.size):∃X:Nat,S[i].toNat=X∧X<256:=⟨_,rfl,UInt8.toNat_lt _⟩
theorem drop_at{j:Nat}(h:k+j<S.size):∃cr:j<(S.data.toList.drop k).length,(S.data.toList.drop k)[j]=S[k+j]:=by have aA:S.data.toList.length=S.size:=cG S;exact⟨by rw[gI,aA];omega,by rw[List.getElem_drop];rfl⟩
theorem abG(ax:k≤i)(h:i<S.size)(cr:i-k≤bA (S.data.toList.drop k))(hd:e2 S[i]=true):i+1-k≤bA (S.data.toList.drop k):=by obtain⟨j,rfl⟩:∃j,i=k+j:=⟨i-k,by omega⟩;obtain⟨av,az⟩:=drop_at h;have:=Ni (k:=j) (by omega) av (by rw[az];exact hd);omega
theorem abH(ax:k≤i)(h:i<S.size)(cr:i-k≤bA (S.data.toList.drop k))(hd:e2 S[i]=false):k+bA (S.data.toList.drop k)=i:=by obtain⟨j,rfl⟩:∃j,i=k+j:=⟨i-k,by omega⟩;obtain⟨av,az⟩:=drop_at h;have:=JA (k:=j) (by omega) av (by rw[az];exact hd);omega
theorem abI(ax:k≤i)(h:¬i<S.size)(hi:i≤S.size)(cr:i-k≤bA (S.data.toList.drop k)):k+bA (S.data.toList.drop k)=i:=by have av:=rD (S.data.toList.drop k);rw[gI,cG] at av;omega
theorem TQ{X:Nat}(h:i<S.size)(dd:S[i].toNat=X)(b:Bool)(ay:e2 S[i]=b):(decide (48≤(X:Int))&&decide ((X:Int)≤57))=b:=by
 rw[←ay,←dd];unfold e2
 congr 1<;>(rw[yY];omega)
theorem abJ{R:Nat}(hS:S.size≤300)(w:aeo)(aT:ak w R 0 (aa S))(k:Nat)(ax:k≤S.size)(a:Int)(ha:af (a=(k:Int)))(m:Nat)(hm:af (k+bA (S.data.toList.drop k)=m)):
  Calls Tryz.prog 335 #[ah R 0,I a] w fun e w'=>e=ab (I (m:Int))∧w=w':=by
 obtain rfl:=ha.out;go_enter Tryz.func335,Tryz.ntmps335;go_wp2_with fail
 go_loop [1] (fun a=>∃i:Nat,k≤i∧i≤S.size∧a=I (i:Int)∧af (i-k≤bA (S.data.toList.drop k))) (fun a=>S.size -(intOf a).toNat)
 case atStart=>exact⟨k,by omega,by omega,rfl,by show k-k≤_;omega⟩
 case round=>
  obtain⟨i,ou,La,rfl,nD⟩:=hrel;by_cases b1:i<S.size
  ·obtain⟨X,dd,wF⟩:=HO b1;obtain⟨b,ay⟩:=ar (e2 S[i]);have aO:af ((decide (48≤(X:Int))&&decide ((X:Int)≤57))=b):=TQ b1 dd b ay;have TR:((S[i].toNat:Nat):Int)=(X:Int):=(by rw[dd]);have bf:af ((b=true→i+1-k≤bA (S.data.toList.drop k))∧(b=false→k+bA (S.data.toList.drop k)=i)):=⟨fun h=>abG ou b1 nD.out (ay.trans h),fun h=>abH ou b1 nD.out (ay.trans h)⟩;clear dd ay;cases b with
   |true=>
    go_wp2_with fail;with_reducible refine (HN _ true aO _).mono ?_
    rintro e w' ⟨rfl,rfl⟩;go_wp2_with fail;go_round
    case rel=>exact⟨i+1,by omega,by omega,by go_num,bf.out.1 trivial⟩
    case measure=>simp[intOf];omega
   |false=>
    have bM:af (((i:Nat):Int)=(m:Int)):=(by show _=_;rw[←hm.out,bf.out.2 rfl]);go_wp2_with fail;with_reducible refine (HN _ false aO _).mono ?_
    rintro e w' ⟨rfl,rfl⟩;go_wp2_with fail;go_ret;exact⟨xt bM.out,rfl⟩
  ·have bM:af (((i:Nat):Int)=(m:Int)):=(by show _=_;rw[←hm.out,abI ou b1 La nD.out]);go_wp2_with fail;go_ret;exact⟨xt bM.out,rfl⟩
theorem amS(l:au)(c:UInt8):rE (l++[c])=min (10 *rE l+(c.toNat-48)) 100:=by simp[rE]
theorem amT{m X:Nat}(ax:k≤i)(h:i<S.size)(dd:S[i].toNat=X)(hm:rE ((S.data.toList.drop k).take (i-k))=m):rE ((S.data.toList.drop k).take (i+1-k))=min (10 *m+(X-48)) 100:=by obtain⟨j,rfl⟩:∃j,i=k+j:=⟨i-k,by omega⟩;obtain⟨av,az⟩:=drop_at h;rw[show k+j-k=j by omega] at hm;rw[show k+j+1-k=j+1 by omega,y5 av,amS,hm,az,dd]
theorem abK{r:au}(h:S.data.toList.drop k=r)(hne:r≠[]):k<S.size∧S.data.toList.drop (k+1)=r.drop 1:=by have av:=fK List.length h;rw[gI,cG] at av;have az:=List.length_pos_iff.2 hne;refine⟨by omega,?_⟩;rw[←h,List.drop_drop]
theorem TS(h:k<S.size):hd (S.data.toList.drop k)=S[k]:=by
 have aA:k<S.data.toList.length:=by rw[cG];exact h
 rw[lT aA];rfl
theorem amU{w0:aeo}{R deep:Nat}{st:dF}(hS:S.size≤300)(w:aeo)(h:qy w0 S R deep st w)(he:st.e=0)(aA:st.ops.length≤1000)(pU:hd st.r=36):
  Calls Tryz.prog 329 #[ah R 0] w (Left w0 S R deep (kY st)):=by
 obtain⟨k,v,h⟩:=h;have hne:st.r≠[]:=by intro e;rw[e] at pU;exact absurd pU (by decide)
 obtain⟨AH,hx⟩:=abK h.rest hne;have H:=aq h;obtain⟨aN,aL,aI,c3,bJ⟩:=h.cells;have f4:=h.frozen 4;have c2:=aq hx;have bm:=aq he;clear h hx he pU hne;go_enter Tryz.func329,Tryz.ntmps329;go_wp2_with fail
 go_loop [2,3] (fun a n=>∃i m:Nat,k+1≤i∧i≤S.size∧m≤100∧a=I (i:Int)∧n=I (m:Int)∧af (i -(k+1)≤bA (S.data.toList.drop (k+1))∧rE ((S.data.toList.drop (k+1)).take (i -(k+1)))=m)) (fun a _=>S.size -(intOf a).toNat)
 case atStart=>exact⟨k+1,0,by omega,by omega,by omega,by go_num,rfl,by show k+1 -(k+1)≤_;omega,by rw[TP];rfl⟩
 case round=>
  obtain⟨i,m,ou,La,hm,rfl,rfl,nD⟩:=hrel;by_cases q5:i<S.size∧e2 (S.data.toList.getD i 0)=true
  ·obtain⟨b1,abL⟩:=q5;have CN:e2 S[i]=true:=(by have:S.data.toList.getD i 0=S[i]:=(by rw[B3,List.getElem?_eq_getElem (by rw[cG];exact b1)];rfl);rw[←this];exact abL);obtain⟨X,dd,wF⟩:=HO b1;have aO:af ((decide (48≤(X:Int))&&decide ((X:Int)≤57))=true):=TQ b1 dd true CN;have TR:((S[i].toNat:Nat):Int)=(X:Int):=(by rw[dd]);have amV:48≤X∧X≤57:=(by rw[←dd];exact (qU _).1 CN);obtain⟨axm,axn⟩:=amV;obtain⟨V,lg⟩:∃V:Nat,min (10 *m+(X-48)) 100=V:=⟨_,rfl⟩;have axo:min (10 *(m:Int)+((X:Int)-48)) 100=(V:Int):=(by omega);have amW:V≤100:=(by omega);have bf:af (i+1 -(k+1)≤bA (S.data.toList.drop (k+1))∧rE ((S.data.toList.drop (k+1)).take (i+1 -(k+1)))=V):=⟨abG ou b1 nD.out.1 CN,by rw[amT ou b1 dd nD.out.2,lg]⟩;clear dd lg abL CN;go_wp2_with fail;with_reducible refine (HN _ true aO _).mono ?_
   rintro e w' ⟨rfl,rfl⟩;go_wp2_with fail;go_round
   case rel=>exact⟨i+1,V,by omega,by omega,amW,by go_num,rfl,bf⟩
   case measure=>simp[intOf];omega
  ·by_cases b1:i<S.size
   ·obtain⟨X,dd,wF⟩:=HO b1;have CN:e2 S[i]=false:=(by rw[yS];intro hQ;apply q5;refine⟨b1,?_⟩;have:S.data.toList.getD i 0=S[i]:=(by rw[B3,List.getElem?_eq_getElem (by rw[cG];exact b1)];rfl);rw[this];exact hQ);have aO:af ((decide (48≤(X:Int))&&decide ((X:Int)≤57))=false):=TQ b1 dd false CN;have TR:((S[i].toNat:Nat):Int)=(X:Int):=(by rw[dd]);have CO:=abH ou b1 nD.out.1 CN;have aP:af (k+1+bA (S.data.toList.drop (k+1))=i∧rE ((S.data.toList.drop (k+1)).take (bA (S.data.toList.drop (k+1))))=m):=⟨CO,by rw[←nD.out.2];congr 2;omega⟩;clear dd CN q5 CO;go_wp2_with fail;with_reducible refine (HN _ false aO _).mono ?_
    rintro e w' ⟨rfl,rfl⟩;go_wp2_with fail;by_cases oe:(m:Int)<1
    ·have b0:af (kY st=⟨st.r,st.ops,3⟩):=by show _=_;unfold kY;rw[←c2.out,aP.out.2,a8 (.inl (by omega))]
     go_quiet (fail)
     go_wp2_with fail;refine bodyPost_ret (results_none rfl _ _ _) rfl ?_;exact⟨rfl,by rw[b0.out];exact⟨k,v,(H.out.drewN _).err 3⟩⟩
    ·by_cases jR:99<(m:Int)
     ·have b0:af (kY st=⟨st.r,st.ops,3⟩):=by show _=_;unfold kY;rw[←c2.out,aP.out.2,a8 (.inr (.inl (by omega)))]
      go_quiet (fail)
      go_wp2_with fail;refine bodyPost_ret (results_none rfl _ _ _) rfl ?_;exact⟨rfl,by rw[b0.out];exact⟨k,v,(H.out.drewN _).err 3⟩⟩
     ·have eI:k+1<S.size:=(by apply xd;intro hn;have av:=aP.out.2;rw[n2 (by rw[cG];omega)] at av;have az:rE (List.take (bA []) [])=0:=rfl;omega);obtain⟨Y,lj,amX⟩:=HO eI;have amY:((S[k+1].toNat:Nat):Int)=(Y:Int):=(by rw[lj]);have aJ:hd (st.r.drop 1)=S[k+1]:=(by rw[←c2.out];exact TS eI);by_cases iJ:Y=48
      ·have t48:((Y:Int)==48)=true:=(by rw[iJ];rfl);have b0:af (kY st=⟨st.r,st.ops,3⟩):=(by show _=_;unfold kY;rw[a8 (.inr (.inr (by rw[aJ];apply UInt8.toNat_inj.1;rw[lj,iJ];rfl)))]);clear aJ lj iJ
       go_quiet (fail)
       go_wp2_with fail;refine bodyPost_ret (results_none rfl _ _ _) rfl ?_;exact⟨rfl,by rw[b0.out];exact⟨k,v,(H.out.drewN _).err 3⟩⟩
      ·have t48:((Y:Int)==48)=false:=by simp;omega
       have b0:af (kY st=⟨(st.r.drop 1).drop (bA (st.r.drop 1)),st.ops++[(2,(m:Int))],0⟩∧put st 2 (m:Int)=⟨st.r,st.ops++[(2,(m:Int))],0⟩∧S.data.toList.drop i=(st.r.drop 1).drop (bA (st.r.drop 1))):=by
        refine⟨?_,by unfold put;rw[a8 bm.out],by rw[←c2.out,List.drop_drop,aP.out.1]⟩;unfold kY;rw[←c2.out,aP.out.2,aR];rintro (h|h|h)
        ·omega
        ·omega
        ·rw[c2.out,aJ] at h;apply iJ;rw[←lj,h];rfl
       clear aJ lj iJ
       go_quiet (fail)
       go_wp2_with fail;with_reducible refine (xu _ (H.out.drewN _).any aA 2 (m:Int)).mono ?_
       rintro e w' ⟨rfl,tv,v',e3⟩;have A7:=aq e3;obtain⟨d0,d1,d2,d3,d4⟩:=e3.cells;have f1:=e3.frozen 1;clear e3 aN aL aI c3 bJ f4;go_wp2_with fail;go_end0;refine⟨rfl,i,v',?_⟩;have kQ:=A7.out.step La rfl;rw[b0.out.2.1,b0.out.2.2] at kQ;rw[b0.out.1];exact kQ
   ·have CO:=abI ou b1 La nD.out.1;have aP:af (k+1+bA (S.data.toList.drop (k+1))=i∧rE ((S.data.toList.drop (k+1)).take (bA (S.data.toList.drop (k+1))))=m):=⟨CO,by rw[←nD.out.2];congr 2;omega⟩;clear q5 CO;go_wp2_with fail;by_cases oe:(m:Int)<1
    ·have b0:af (kY st=⟨st.r,st.ops,3⟩):=by show _=_;unfold kY;rw[←c2.out,aP.out.2,a8 (.inl (by omega))]
     go_quiet (fail)
     go_wp2_with fail;refine bodyPost_ret (results_none rfl _ _ _) rfl ?_;exact⟨rfl,by rw[b0.out];exact⟨k,v,(H.out.drewN _).err 3⟩⟩
    ·by_cases jR:99<(m:Int)
     ·have b0:af (kY st=⟨st.r,st.ops,3⟩):=by show _=_;unfold kY;rw[←c2.out,aP.out.2,a8 (.inr (.inl (by omega)))]
      go_quiet (fail)
      go_wp2_with fail;refine bodyPost_ret (results_none rfl _ _ _) rfl ?_;exact⟨rfl,by rw[b0.out];exact⟨k,v,(H.out.drewN _).err 3⟩⟩
     ·have eI:k+1<S.size:=(by apply xd;intro hn;have av:=aP.out.2;rw[n2 (by rw[cG];omega)] at av;have az:rE (List.take (bA []) [])=0:=rfl;omega);obtain⟨Y,lj,amX⟩:=HO eI;have amY:((S[k+1].toNat:Nat):Int)=(Y:Int):=(by rw[lj]);have aJ:hd (st.r.drop 1)=S[k+1]:=(by rw[←c2.out];exact TS eI);by_cases iJ:Y=48
      ·have t48:((Y:Int)==48)=true:=(by rw[iJ];rfl);have b0:af (kY st=⟨st.r,st.ops,3⟩):=(by show _=_;unfold kY;rw[a8 (.inr (.inr (by rw[aJ];apply UInt8.toNat_inj.1;rw[lj,iJ];rfl)))]);clear aJ lj iJ
       go_quiet (fail)
       go_wp2_with fail;refine bodyPost_ret (results_none rfl _ _ _) rfl ?_;exact⟨rfl,by rw[b0.out];exact⟨k,v,(H.out.drewN _).err 3⟩⟩
      ·have t48:((Y:Int)==48)=false:=by simp;omega
       have b0:af (kY st=⟨(st.r.drop 1).drop (bA (st.r.drop 1)),st.ops++[(2,(m:Int))],0⟩∧put st 2 (m:Int)=⟨st.r,st.ops++[(2,(m:Int))],0⟩∧S.data.toList.drop i=(st.r.drop 1).drop (bA (st.r.drop 1))):=by
        refine⟨?_,by unfold put;rw[a8 bm.out],by rw[←c2.out,List.drop_drop,aP.out.1]⟩;unfold kY;rw[←c2.out,aP.out.2,aR];rintro (h|h|h)
        ·omega
        ·omega
        ·rw[c2.out,aJ] at h;apply iJ;rw[←lj,h];rfl
       clear aJ lj iJ
       go_quiet (fail)
       go_wp2_with fail;with_reducible refine (xu _ (H.out.drewN _).any aA 2 (m:Int)).mono ?_
       rintro e w' ⟨rfl,tv,v',e3⟩;have A7:=aq e3;obtain⟨d0,d1,d2,d3,d4⟩:=e3.cells;have f1:=e3.frozen 1;clear e3 aN aL aI c3 bJ f4;go_wp2_with fail;go_end0;refine⟨rfl,i,v',?_⟩;have kQ:=A7.out.step La rfl;rw[b0.out.2.1,b0.out.2.2] at kQ;rw[b0.out.1];exact kQ
end p1
namespace p1
open Go.RowKit j6 ny vF Mem px
theorem TT(s:Ua)(v:Int)(b:Bool)(aS:af ((dec s.data.toList).getD 0=v∧(dec s.data.toList).isSome=b))(hs:s.size≤maxLen)(w:aeo):
  Calls Tryz.prog 136 #[aa s] w fun e w'=>e=ab (.tuple #[I v,U b])∧w'=w:=by
 obtain⟨av,az⟩:=aS.out;subst av;subst az;exact (YO s w hs).mono fun _ _ h=>⟨h.1,h.2.symm⟩
theorem abM(S:Ua)(k m:Nat):(S.extract k m).data.toList=(S.data.toList.drop k).take (m-k):=by rw[B']
variable{S:Ua}{k R deep d:Nat}
theorem amZ{m1:Nat}(oe:k+bA (S.data.toList.drop k)=m1):
  (¬(m1<S.size∧hd (S.data.toList.drop m1)=46)→k+nY (S.data.toList.drop k)=m1)∧(hd (S.data.toList.drop m1)=46→k+nY (S.data.toList.drop k)=m1+1+bA (S.data.toList.drop (m1+1))):=by
 have a1:(S.data.toList.drop k).drop (bA (S.data.toList.drop k))=S.data.toList.drop m1:=by rw[List.drop_drop,oe]
 have a6:(S.data.toList.drop k).drop (bA (S.data.toList.drop k)+1)=S.data.toList.drop (m1+1):=by rw[List.drop_drop];congr 1;omega
 unfold nY;rw[a1,a6];constructor
 ·intro h;rw[aR]
  ·exact oe
  ·intro kZ;apply h;refine⟨?_,kZ⟩;apply xd;intro hn;rw[n2 (by rw[cG];omega)] at kZ;exact absurd kZ (by decide)
 ·intro h;rw[a8 h];omega
theorem abN(S:Ua)(k:Nat)(ax:k≤S.size):k+bA (S.data.toList.drop k)≤S.size:=by have av:=rD (S.data.toList.drop k);rw[gI,cG] at av;omega
variable{w0 w:aeo}{st goal:dF}
theorem Lb(hS:S.size≤300)(w:aeo)(h:qy w0 S R deep st w)(he:st.e=0)(aA:st.ops.length≤1000):
  Calls Tryz.prog 331 #[ah R 0] w (Left w0 S R deep (lp st)):=by
 obtain⟨k,v,h⟩:=h;have ax:=h.ur;have H:=aq h;obtain⟨aN,aL,aI,c3,bJ⟩:=h.cells;have f1:=h.frozen 1;have f4:=h.frozen 4;have bm:=aq he;obtain⟨m1,oe⟩:=ar (k+bA (S.data.toList.drop k));have gd:=aq oe;have axp:m1≤S.size:=by rw[←oe];exact abN S k ax
 have axq:k≤m1:=by omega
 obtain⟨m,hm⟩:=ar (k+nY (S.data.toList.drop k));have bM:=aq hm;have hne:=amZ oe
 have Lc:k≤m∧m≤S.size:=by
  refine⟨by omega,?_⟩;by_cases kZ:m1<S.size∧hd (S.data.toList.drop m1)=46
  ·have av:=hne.2 kZ.2;have az:=abN S (m1+1) (by omega);omega
  ·have av:=hne.1 kZ;omega
 obtain⟨xz,Lc⟩:=Lc;have lH:=aq hne;clear h he oe hm hne;obtain⟨z,bn⟩:=ar ((dec (S.extract k m).data.toList).getD 0);obtain⟨b,ay⟩:=ar ((dec (S.extract k m).data.toList).isSome);have bN:af ((dec (S.extract k m).data.toList).getD 0=z∧(dec (S.extract k m).data.toList).isSome=b):=⟨bn,ay⟩;have lI:(S.extract k m).size≤300:=by have av:=fK List.length (abM S k m);rw[cG,List.length_take] at av;omega
 have HP:af ((S.extract k m).data.toList=st.r.take (nY st.r)):=by
  show _=_;rw[abM,H.out.rest]
  congr 1
  have:=bM.out;rw[H.out.rest] at this;omega
 clear bn ay;have i0:(0:Int)≤(k:Int):=by omega
 have mx:(k:Int)≤(m:Int):=by omega
 have i2:(m:Int)≤(S.size:Int):=by omega
 go_enter Tryz.func331,Tryz.ntmps331;go_wp2_with fail;with_reducible refine (abJ hS _ aN k ax _ (aq (Eq.refl _)) m1 gd).mono ?_
 rintro e w' ⟨rfl,rfl⟩;by_cases b1:m1<S.size
 ·obtain⟨X,dd,wF⟩:=HO b1;have TR:((S[m1].toNat:Nat):Int)=(X:Int):=(by rw[dd]);have aJ:=TS b1;by_cases kZ:X=46
  ·have t46:((X:Int)==46)=true:=(by rw[kZ];rfl);have am0:af (m1+1+bA (S.data.toList.drop (m1+1))=m):=(by show _=_;rw[←bM.out];exact (lH.out.2 (by rw[aJ];apply UInt8.toNat_inj.1;rw[dd,kZ];rfl)).symm);have am1:af ((m1:Int)+1=((m1+1:Nat):Int)):=(by show _=_;omega);clear dd aJ kZ;go_wp2_with fail;with_reducible refine (abJ hS _ aN (m1+1) (by omega) _ am1 m am0).mono ?_
   rintro e w' ⟨rfl,rfl⟩;go_wp2_with fail
   go_quiet ((go_at_call 136;exact Calls.quiet_of_same (TT _ z b bN (by unfold maxLen;omega) _)))
   cases b with
   |false=>
    have b0:af (lp st=⟨st.r,st.ops,3⟩):=by
     show _=_;have av:=bN.out.2;rw[HP.out] at av;unfold lp;cases hQ:dec (st.r.take (nY st.r)) with
     |none=>rfl
     |some n=>rw[hQ] at av;cases av
    go_wp2_with fail;refine bodyPost_ret (results_none rfl _ _ _) rfl ?_;exact⟨rfl,by rw[b0.out];exact⟨k,v,(H.out.drewN _).err 3⟩⟩
   |true=>
    have b0:af (lp st=⟨st.r.drop (nY st.r),st.ops++[(1,z)],0⟩∧put st 1 z=⟨st.r,st.ops++[(1,z)],0⟩∧S.data.toList.drop m=st.r.drop (nY st.r)):=by
     refine⟨?_,by unfold put;rw[a8 bm.out],by rw[←bM.out,H.out.rest,←List.drop_drop,H.out.rest]⟩;have av:=bN.out;rw[HP.out] at av;unfold lp;cases hQ:dec (st.r.take (nY st.r)) with
     |none=>rw[hQ] at av;cases av.2
     |some n=>rw[hQ] at av;have az:n=z:=av.1;rw[az]
    go_wp2_with fail;with_reducible refine (xu _ (H.out.drewN _).any aA 1 z).mono ?_
    rintro e w' ⟨rfl,tv,v',e3⟩;have A7:=aq e3;obtain⟨d0,d1,d2,d3,d4⟩:=e3.cells;have g1:=e3.frozen 1;clear e3 aN aL aI c3 bJ f4 f1;go_wp2_with fail;go_end0;refine⟨rfl,m,v',?_⟩;have kQ:=A7.out.step Lc rfl;rw[b0.out.2.1,b0.out.2.2] at kQ;rw[b0.out.1];exact kQ
  ·have t46:((X:Int)==46)=false:=(by simp;omega);obtain rfl:m1=m:=(by rw[←bM.out];refine (lH.out.1 ?_).symm;rintro⟨_,h⟩;rw[aJ] at h;apply kZ;rw[←dd,h];rfl);clear dd aJ kZ;go_wp2_with fail
   go_quiet ((go_at_call 136;exact Calls.quiet_of_same (TT _ z b bN (by unfold maxLen;omega) _)))
   cases b with
   |false=>
    have b0:af (lp st=⟨st.r,st.ops,3⟩):=by
     show _=_;have av:=bN.out.2;rw[HP.out] at av;unfold lp;cases hQ:dec (st.r.take (nY st.r)) with
     |none=>rfl
     |some n=>rw[hQ] at av;cases av
    go_wp2_with fail;refine bodyPost_ret (results_none rfl _ _ _) rfl ?_;exact⟨rfl,by rw[b0.out];exact⟨k,v,(H.out.drewN _).err 3⟩⟩
   |true=>
    have b0:af (lp st=⟨st.r.drop (nY st.r),st.ops++[(1,z)],0⟩∧put st 1 z=⟨st.r,st.ops++[(1,z)],0⟩∧S.data.toList.drop m1=st.r.drop (nY st.r)):=by
     refine⟨?_,by unfold put;rw[a8 bm.out],by rw[←bM.out,H.out.rest,←List.drop_drop,H.out.rest]⟩;have av:=bN.out;rw[HP.out] at av;unfold lp;cases hQ:dec (st.r.take (nY st.r)) with
     |none=>rw[hQ] at av;cases av.2
     |some n=>rw[hQ] at av;have az:n=z:=av.1;rw[az]
    go_wp2_with fail;with_reducible refine (xu _ (H.out.drewN _).any aA 1 z).mono ?_
    rintro e w' ⟨rfl,tv,v',e3⟩;have A7:=aq e3;obtain⟨d0,d1,d2,d3,d4⟩:=e3.cells;have g1:=e3.frozen 1;clear e3 aN aL aI c3 bJ f4 f1;go_wp2_with fail;go_end0;refine⟨rfl,m1,v',?_⟩;have kQ:=A7.out.step Lc rfl;rw[b0.out.2.1,b0.out.2.2] at kQ;rw[b0.out.1];exact kQ
 ·obtain rfl:m1=m:=(by rw[←bM.out];exact (lH.out.1 (fun h=>b1 h.1)).symm);go_wp2_with fail
  go_quiet ((go_at_call 136;exact Calls.quiet_of_same (TT _ z b bN (by unfold maxLen;omega) _)))
  cases b with
  |false=>
   have b0:af (lp st=⟨st.r,st.ops,3⟩):=by
    show _=_;have av:=bN.out.2;rw[HP.out] at av;unfold lp;cases hQ:dec (st.r.take (nY st.r)) with
    |none=>rfl
    |some n=>rw[hQ] at av;cases av
   go_wp2_with fail;refine bodyPost_ret (results_none rfl _ _ _) rfl ?_;exact⟨rfl,by rw[b0.out];exact⟨k,v,(H.out.drewN _).err 3⟩⟩
  |true=>
   have b0:af (lp st=⟨st.r.drop (nY st.r),st.ops++[(1,z)],0⟩∧put st 1 z=⟨st.r,st.ops++[(1,z)],0⟩∧S.data.toList.drop m1=st.r.drop (nY st.r)):=by
    refine⟨?_,by unfold put;rw[a8 bm.out],by rw[←bM.out,H.out.rest,←List.drop_drop,H.out.rest]⟩;have av:=bN.out;rw[HP.out] at av;unfold lp;cases hQ:dec (st.r.take (nY st.r)) with
    |none=>rw[hQ] at av;cases av.2
    |some n=>rw[hQ] at av;have az:n=z:=av.1;rw[az]
   go_wp2_with fail;with_reducible refine (xu _ (H.out.drewN _).any aA 1 z).mono ?_
   rintro e w' ⟨rfl,tv,v',e3⟩;have A7:=aq e3;obtain⟨d0,d1,d2,d3,d4⟩:=e3.cells;have g1:=e3.frozen 1;clear e3 aN aL aI c3 bJ f4 f1;go_wp2_with fail;go_end0;refine⟨rfl,m1,v',?_⟩;have kQ:=A7.out.step Lc rfl;rw[b0.out.2.1,b0.out.2.2] at kQ;rw[b0.out.1];exact kQ
def tF(R:Nat)(w:aeo):Nat:=match w.cell? (aj R 1) with|some (.int _ q)=>q.toNat|_=>0
variable{v:ada}
theorem zF(h:hT w0 S R deep st k v w):tF R w=k:=by unfold tF;rw[h.cells.2.1];simp
def E8(d:Nat):Prop:=∀(w0:aeo) (S:Ua) (R deep:Nat) (st:dF) (w:aeo),S.size≤300→deep+d=30→qy w0 S R deep st w→st.e=0→st.ops.length+st.r.length≤300→
 Calls Tryz.prog 318 #[ah R 0] w (Left w0 S R deep (fq d st))
def Pf(d:Nat):Prop:=∀(w0:aeo) (S:Ua) (R deep:Nat) (st:dF) (w:aeo),S.size≤300→deep+d=30→qy w0 S R deep st w→st.e=0→st.ops.length+st.r.length≤300→
 Calls Tryz.prog 289 #[ah R 0] w (Left w0 S R deep (rF (fq d) st))
def Ld(d:Nat):Prop:=∀(w0:aeo) (S:Ua) (R deep:Nat) (st:dF) (w:aeo),S.size≤300→deep+d=30→qy w0 S R deep st w→st.e=0→st.ops.length+st.r.length≤300→
 Calls Tryz.prog 255 #[ah R 0] w (Left w0 S R deep (vG (fq d) st))
theorem E8.use(hF:E8 d)(hS:S.size≤300)(hd:deep+d=30)(h:qy w0 S R deep st w)(he:st.e=0)(hc:st.ops.length+st.r.length≤300):
 Calls Tryz.prog 318 #[ah R 0] w (Left w0 S R deep (fq d st)):=hF w0 S R deep st w hS hd h he hc
theorem Pf.use(hF:Pf d)(hS:S.size≤300)(hd:deep+d=30)(h:qy w0 S R deep st w)(he:st.e=0)(hc:st.ops.length+st.r.length≤300):
 Calls Tryz.prog 289 #[ah R 0] w (Left w0 S R deep (rF (fq d) st)):=hF w0 S R deep st w hS hd h he hc
theorem Ld.use(hF:Ld d)(hS:S.size≤300)(hd:deep+d=30)(h:qy w0 S R deep st w)(he:st.e=0)(hc:st.ops.length+st.r.length≤300):
 Calls Tryz.prog 255 #[ah R 0] w (Left w0 S R deep (vG (fq d) st)):=hF w0 S R deep st w hS hd h he hc
def E9(op:UInt8→Option Nat)(f:dF→dF)(goal:dF)(st:dF)(K:Nat):Prop:=goal=sM op f K st∧st.r.length<K∧st.ops.length+st.r.length≤300
theorem Pg{op:UInt8→Option Nat}{f:dF→dF}{K:Nat}(h:E9 op f goal st K)(hs:st.e=0→op (hd st.r)=none):goal=st:=by rw[h.1,aix _ hs]
theorem Le{op:UInt8→Option Nat}(aT:op 0=none){f:dF→dF}(hf:BX f)(hQ:Down f){K q:Nat}(h:E9 op f goal st K)(he:st.e=0)(aH:op (hd st.r)=some q):
  E9 op f goal (put (f ⟨st.r.drop 1,st.ops,0⟩) q 0) (K-1)∧(put (f ⟨st.r.drop 1,st.ops,0⟩) q 0).r.length<st.r.length∧st.r≠[]:=by
 have hne:=Xz aT aH;have hp:=List.length_pos_iff.2 hne;have av:=hQ ⟨st.r.drop 1,st.ops,0⟩;have az:=hf ⟨st.r.drop 1,st.ops,0⟩;have aF:=Rq (f ⟨st.r.drop 1,st.ops,0⟩) q 0;simp only[gI] at av az;have bk:=h.2.1;have b9:=h.2.2;obtain⟨axr,rfl⟩:∃j,K=j+1:=⟨K-1,by omega⟩;refine⟨⟨?_,?_,?_⟩,?_,hne⟩
 ·rw[h.1,aiy _ he aH];rfl
 ·rw[vI];omega
 ·rw[vI];omega
 ·rw[vI];omega
theorem hT.A8(h:hT w0 S R deep st k v w)(hne:st.r≠[])(he:st.e=0):hT w0 S R deep ⟨st.r.drop 1,st.ops,0⟩ (k+1) v (w.setCell (aj R 1) (I ((k:Int)+1))):=by obtain⟨av,az⟩:=abK h.rest hne;have:=h.step (m:=k+1) (by omega) az;rw[he] at this;exact this
variable{r:au}{c:UInt8}
theorem o7(h:hd r=c):uu r=(c.toNat:Int):=by unfold uu;rw[h]
theorem yb(h:hd r≠c):(uu r==(c.toNat:Int))=false:=by rw[beq_eq_false_iff_ne];unfold uu;intro e;apply h;apply UInt8.toNat_inj.1;omega
theorem abO(d:Nat)(hF:E8 d):Pf d:=by
 intro w0 S R deep st w hS qb h he fV;go_enter Tryz.func289,Tryz.ntmps289;go_wp2_with fail;go_fit (hF.use hS qb h he fV);rintro e bV ⟨rfl,av⟩;have dT:af (E9 jk (fq d) (rF (fq d) st) (fq d st) (st.r.length+1)):=⟨rfl,by have:=BW d st;omega,by have:=sO d st;omega⟩;have bq:=aq av;clear h he fV av;go_wp2_with fail
 go_loopw [2] (fun _ wr=>∃(de:dF) (K:Nat),af (qy w0 S R deep de wr)∧af (E9 jk (fq d) (rF (fq d) st) de K)) (fun _ wr=>S.size-tF R wr)
 case atStart=>exact⟨_,_,bq,dT⟩
 case round=>
  obtain⟨de,K,lZ,sn⟩:=hrel;clear bq dT;obtain⟨k,v,h⟩:=lZ.out;have H:=aq h;obtain⟨aN,aL,aI,c3,bJ⟩:=h.cells;have f1:=h.frozen 1;have TU:k≤300:=dB h.ur hS;clear h;by_cases he:de.e=0
  ·have E':((de.e:Int)==0)=true:=(by rw[he];rfl);have bm:=aq he;clear he;obtain⟨c,hc⟩:=ar (uu de.r);have bz:=aq hc;by_cases HQ:hd de.r=120
   ·have t120:(c==120)=true:=(by rw[←hc,o7 HQ];rfl);have aO:=HQ;have bd:af (jk (hd de.r)=some 5):=(by show _=_;rw[aO];rfl);have av:=Le rfl (sO d) (BW d) sn.out bm.out bd.out;have im:=aq av;have lH:af (de.r≠[]):=av.2.2;have ld:af ((⟨de.r.drop 1,de.ops,0⟩:dF).ops.length+(⟨de.r.drop 1,de.ops,0⟩:dF).r.length≤300):=(by show de.ops.length+(de.r.drop 1).length≤300;have:=sn.out.2.2;rw[gI];omega);have vd:af (((fq d) ⟨de.r.drop 1,de.ops,0⟩).ops.length≤1000):=(by show _≤_;have g1:=(sO d) ⟨de.r.drop 1,de.ops,0⟩;have g2:=ld.out;omega);clear aO hc HQ;clear av;go_wp2_with fail;with_reducible refine (mT _ H c bz).mono ?_
    rintro e w' ⟨cL,rfl,rfl⟩;have bf:=aq ((H.out.drewN cL).A8 lH.out bm.out).any;go_wp2_with fail;go_fit (hF.use (st:=⟨de.r.drop 1,de.ops,0⟩) hS qb bf.out rfl ld.out);rintro e bY ⟨rfl,az⟩;go_wp2_with fail;with_reducible refine (xu _ az vd.out 5 0).mono ?_
    rintro e dp ⟨rfl,aF⟩;go_wp2_with fail;have bM:af (S.size-tF R dp<S.size-tF R wr):=by show _<_;obtain⟨il,v3,r'⟩:=aF;rw[zF r',zF H.out];have g1:=r'.len;have g2:=H.out.len;have g3:=im.out.2.1;have g4:=List.length_pos_iff.2 lH.out;rw[vI] at g1 g3;omega
    go_roundw
    case rel=>exact⟨_,_,aF,im.out.1⟩
    case measure=>exact bM.out
   ·have t120:(c==120)=false:=(by rw[←hc];exact yb HQ);by_cases HR:hd de.r=88
    ·have t88:(c==88)=true:=(by rw[←hc,o7 HR];rfl);have aO:=HR;have bd:af (jk (hd de.r)=some 5):=(by show _=_;rw[aO];rfl);have av:=Le rfl (sO d) (BW d) sn.out bm.out bd.out;have im:=aq av;have lH:af (de.r≠[]):=av.2.2;have ld:af ((⟨de.r.drop 1,de.ops,0⟩:dF).ops.length+(⟨de.r.drop 1,de.ops,0⟩:dF).r.length≤300):=(by show de.ops.length+(de.r.drop 1).length≤300;have:=sn.out.2.2;rw[gI];omega);have vd:af (((fq d) ⟨de.r.drop 1,de.ops,0⟩).ops.length≤1000):=(by show _≤_;have g1:=(sO d) ⟨de.r.drop 1,de.ops,0⟩;have g2:=ld.out;omega);clear aO hc HR;clear av;go_wp2_with fail;with_reducible refine (mT _ H c bz).mono ?_
     rintro e w' ⟨cL,rfl,rfl⟩;have bf:=aq ((H.out.drewN cL).A8 lH.out bm.out).any;go_wp2_with fail;go_fit (hF.use (st:=⟨de.r.drop 1,de.ops,0⟩) hS qb bf.out rfl ld.out);rintro e bY ⟨rfl,az⟩;go_wp2_with fail;with_reducible refine (xu _ az vd.out 5 0).mono ?_
     rintro e dp ⟨rfl,aF⟩;go_wp2_with fail;have bM:af (S.size-tF R dp<S.size-tF R wr):=by show _<_;obtain⟨il,v3,r'⟩:=aF;rw[zF r',zF H.out];have g1:=r'.len;have g2:=H.out.len;have g3:=im.out.2.1;have g4:=List.length_pos_iff.2 lH.out;rw[vI] at g1 g3;omega
     go_roundw
     case rel=>exact⟨_,_,aF,im.out.1⟩
     case measure=>exact bM.out
    ·have t88:(c==88)=false:=(by rw[←hc];exact yb HR);by_cases HS:hd de.r=47
     ·have t47:(c==47)=true:=(by rw[←hc,o7 HS];rfl);have aO:=HS;have bd:af (jk (hd de.r)=some 6):=(by show _=_;rw[aO];rfl);have av:=Le rfl (sO d) (BW d) sn.out bm.out bd.out;have im:=aq av;have lH:af (de.r≠[]):=av.2.2;have ld:af ((⟨de.r.drop 1,de.ops,0⟩:dF).ops.length+(⟨de.r.drop 1,de.ops,0⟩:dF).r.length≤300):=(by show de.ops.length+(de.r.drop 1).length≤300;have:=sn.out.2.2;rw[gI];omega);have vd:af (((fq d) ⟨de.r.drop 1,de.ops,0⟩).ops.length≤1000):=(by show _≤_;have g1:=(sO d) ⟨de.r.drop 1,de.ops,0⟩;have g2:=ld.out;omega);clear aO hc HS;clear av;go_wp2_with fail;with_reducible refine (mT _ H c bz).mono ?_
      rintro e w' ⟨cL,rfl,rfl⟩;have bf:=aq ((H.out.drewN cL).A8 lH.out bm.out).any;go_wp2_with fail;go_fit (hF.use (st:=⟨de.r.drop 1,de.ops,0⟩) hS qb bf.out rfl ld.out);rintro e bY ⟨rfl,az⟩;go_wp2_with fail;with_reducible refine (xu _ az vd.out 6 0).mono ?_
      rintro e dp ⟨rfl,aF⟩;go_wp2_with fail;have bM:af (S.size-tF R dp<S.size-tF R wr):=by show _<_;obtain⟨il,v3,r'⟩:=aF;rw[zF r',zF H.out];have g1:=r'.len;have g2:=H.out.len;have g3:=im.out.2.1;have g4:=List.length_pos_iff.2 lH.out;rw[vI] at g1 g3;omega
      go_roundw
      case rel=>exact⟨_,_,aF,im.out.1⟩
      case measure=>exact bM.out
     ·have t47:(c==47)=false:=(by rw[←hc];exact yb HS);have di:af (rF (fq d) st=de):=Pg sn.out (fun _=>by unfold jk;simp[HQ,HR,HS]);clear hc HQ HR HS;go_wp2_with fail;with_reducible refine (mT _ H c bz).mono ?_
      rintro e w' ⟨cL,rfl,rfl⟩;go_wp2_with fail;refine bodyPost_ret (results_none rfl _ _ _) rfl ?_;exact⟨rfl,by rw[di.out];exact (H.out.drewN cL).any⟩
  ·have E':((de.e:Int)==0)=false:=(by simp;omega);have di:af (rF (fq d) st=de):=Pg sn.out (fun h=>absurd h he);clear he;go_wp2_with fail;go_end0;exact⟨rfl,by rw[di.out];exact H.out.any⟩
theorem abP(d:Nat)(hF:Pf d):Ld d:=by
 intro w0 S R deep st w hS qb h he fV;go_enter Tryz.func255,Tryz.ntmps255;go_wp2_with fail;go_fit (hF.use hS qb h he fV);rintro e bV ⟨rfl,av⟩;have dT:af (E9 DN (rF (fq d)) (vG (fq d) st) (rF (fq d) st) (st.r.length+1)):=⟨rfl,by have:=JC (BW d) st;omega,by have:=DO (sO d) st;omega⟩;have bq:=aq av;clear h he fV av;go_wp2_with fail
 go_loopw [2] (fun _ wr=>∃(de:dF) (K:Nat),af (qy w0 S R deep de wr)∧af (E9 DN (rF (fq d)) (vG (fq d) st) de K)) (fun _ wr=>S.size-tF R wr)
 case atStart=>exact⟨_,_,bq,dT⟩
 case round=>
  obtain⟨de,K,lZ,sn⟩:=hrel;clear bq dT;obtain⟨k,v,h⟩:=lZ.out;have H:=aq h;obtain⟨aN,aL,aI,c3,bJ⟩:=h.cells;have f1:=h.frozen 1;have TU:k≤300:=dB h.ur hS;clear h;by_cases he:de.e=0
  ·have E':((de.e:Int)==0)=true:=(by rw[he];rfl);have bm:=aq he;clear he;obtain⟨c,hc⟩:=ar (uu de.r);have bz:=aq hc;by_cases HT:hd de.r=43
   ·have t43:(c==43)=true:=(by rw[←hc,o7 HT];rfl);have aO:=HT;have bd:af (DN (hd de.r)=some 3):=(by show _=_;rw[aO];rfl);have av:=Le rfl (DO (sO d)) (JC (BW d)) sn.out bm.out bd.out;have im:=aq av;have lH:af (de.r≠[]):=av.2.2;have ld:af ((⟨de.r.drop 1,de.ops,0⟩:dF).ops.length+(⟨de.r.drop 1,de.ops,0⟩:dF).r.length≤300):=(by show de.ops.length+(de.r.drop 1).length≤300;have:=sn.out.2.2;rw[gI];omega);have vd:af (((rF (fq d)) ⟨de.r.drop 1,de.ops,0⟩).ops.length≤1000):=(by show _≤_;have g1:=(DO (sO d)) ⟨de.r.drop 1,de.ops,0⟩;have g2:=ld.out;omega);clear aO hc HT;clear av;go_wp2_with fail;with_reducible refine (mT _ H c bz).mono ?_
    rintro e w' ⟨cL,rfl,rfl⟩;have bf:=aq ((H.out.drewN cL).A8 lH.out bm.out).any;go_wp2_with fail;go_fit (hF.use (st:=⟨de.r.drop 1,de.ops,0⟩) hS qb bf.out rfl ld.out);rintro e bY ⟨rfl,az⟩;go_wp2_with fail;with_reducible refine (xu _ az vd.out 3 0).mono ?_
    rintro e dp ⟨rfl,aF⟩;go_wp2_with fail;have bM:af (S.size-tF R dp<S.size-tF R wr):=by show _<_;obtain⟨il,v3,r'⟩:=aF;rw[zF r',zF H.out];have g1:=r'.len;have g2:=H.out.len;have g3:=im.out.2.1;have g4:=List.length_pos_iff.2 lH.out;rw[vI] at g1 g3;omega
    go_roundw
    case rel=>exact⟨_,_,aF,im.out.1⟩
    case measure=>exact bM.out
   ·have t43:(c==43)=false:=(by rw[←hc];exact yb HT);by_cases HU:hd de.r=45
    ·have t45:(c==45)=true:=(by rw[←hc,o7 HU];rfl);have aO:=HU;have bd:af (DN (hd de.r)=some 4):=(by show _=_;rw[aO];rfl);have av:=Le rfl (DO (sO d)) (JC (BW d)) sn.out bm.out bd.out;have im:=aq av;have lH:af (de.r≠[]):=av.2.2;have ld:af ((⟨de.r.drop 1,de.ops,0⟩:dF).ops.length+(⟨de.r.drop 1,de.ops,0⟩:dF).r.length≤300):=(by show de.ops.length+(de.r.drop 1).length≤300;have:=sn.out.2.2;rw[gI];omega);have vd:af (((rF (fq d)) ⟨de.r.drop 1,de.ops,0⟩).ops.length≤1000):=(by show _≤_;have g1:=(DO (sO d)) ⟨de.r.drop 1,de.ops,0⟩;have g2:=ld.out;omega);clear aO hc HU;clear av;go_wp2_with fail;with_reducible refine (mT _ H c bz).mono ?_
     rintro e w' ⟨cL,rfl,rfl⟩;have bf:=aq ((H.out.drewN cL).A8 lH.out bm.out).any;go_wp2_with fail;go_fit (hF.use (st:=⟨de.r.drop 1,de.ops,0⟩) hS qb bf.out rfl ld.out);rintro e bY ⟨rfl,az⟩;go_wp2_with fail;with_reducible refine (xu _ az vd.out 4 0).mono ?_
     rintro e dp ⟨rfl,aF⟩;go_wp2_with fail;have bM:af (S.size-tF R dp<S.size-tF R wr):=by show _<_;obtain⟨il,v3,r'⟩:=aF;rw[zF r',zF H.out];have g1:=r'.len;have g2:=H.out.len;have g3:=im.out.2.1;have g4:=List.length_pos_iff.2 lH.out;rw[vI] at g1 g3;omega
     go_roundw
     case rel=>exact⟨_,_,aF,im.out.1⟩
     case measure=>exact bM.out
    ·have t45:(c==45)=false:=(by rw[←hc];exact yb HU);have di:af (vG (fq d) st=de):=Pg sn.out (fun _=>by unfold DN;simp[HT,HU]);clear hc HT HU;go_wp2_with fail;with_reducible refine (mT _ H c bz).mono ?_
     rintro e w' ⟨cL,rfl,rfl⟩;go_wp2_with fail;refine bodyPost_ret (results_none rfl _ _ _) rfl ?_;exact⟨rfl,by rw[di.out];exact (H.out.drewN cL).any⟩
  ·have E':((de.e:Int)==0)=false:=(by simp;omega);have di:af (vG (fq d) st=de):=Pg sn.out (fun h=>absurd h he);clear he;go_wp2_with fail;go_end0;exact⟨rfl,by rw[di.out];exact H.out.any⟩
def Ph(d:Nat):Prop:=∀(w0:aeo) (S:Ua) (R deep:Nat) (st:dF) (w:aeo) (c:UInt8) (C:Int),S.size≤300→deep+d=30→qy w0 S R deep st w→st.e=0→st.ops.length+st.r.length≤300→xh c=true→af (C=(c.toNat:Int))→
 Calls Tryz.prog 328 #[ah R 0,.int .u8 C] w (Left w0 S R deep (rG (fq d) c st))
theorem Ph.use(hF:Ph d){C:Int}(hS:S.size≤300)(hd:deep+d=30)(h:qy w0 S R deep st w)(he:st.e=0)(hc:st.ops.length+st.r.length≤300)(hs:xh c=true)(oR:af (C=(c.toNat:Int))):
 Calls Tryz.prog 328 #[ah R 0,.int .u8 C] w (Left w0 S R deep (rG (fq d) c st)):=hF w0 S R deep st w c C hS hd h he hc hs oR
theorem am2(d:Nat)(hF:E8 d)(am3:Ld d):Ph d:=by
 intro w0 S R deep st w c C hS qb h he fV hs oR;rcases Rp hs with rfl|rfl|rfl
 ·obtain rfl:C=43:=oR.out;have b0:af (rG (fq d) 43 st=fq d st):=(by show _=_;unfold rG;rw[aR (by decide),aR (by decide)]);clear hs oR;go_enter Tryz.func328,Tryz.ntmps328;go_wp2_with fail;go_fit (hF.use hS qb h he fV);rintro e bV ⟨rfl,av⟩;go_wp2_with fail;refine bodyPost_ret (results_none rfl _ _ _) rfl ?_;exact⟨rfl,by rw[b0.out];exact av⟩
 ·obtain rfl:C=45:=oR.out;have b0:af (rG (fq d) 45 st=put (fq d st) 7 0):=(by show _=_;unfold rG;rw[aR (by decide),a8 rfl]);have bN:af ((fq d st).ops.length≤1000):=(by show _≤_;have:=sO d st;omega);clear hs oR;go_enter Tryz.func328,Tryz.ntmps328;go_wp2_with fail;go_fit (hF.use hS qb h he fV);rintro e bV ⟨rfl,av⟩;go_wp2_with fail;with_reducible refine (xu _ av bN.out 7 0).mono ?_
  rintro e bY ⟨rfl,az⟩;go_wp2_with fail;refine bodyPost_ret (results_none rfl _ _ _) rfl ?_;exact⟨rfl,by rw[b0.out];exact az⟩
 ·obtain rfl:C=40:=oR.out;obtain⟨s1,rh⟩:=ar (vG (fq d) st);have b0:af (rG (fq d) 40 st=ud s1):=(by show _=_;unfold rG;rw[a8 rfl,rh]);have kk:=aq rh;clear hs oR rh;go_enter Tryz.func328,Tryz.ntmps328;go_wp2_with fail;go_fit (am3.use hS qb h he fV);rintro e bV ⟨rfl,av⟩;rw[kk.out] at av;obtain⟨k,v,av⟩:=av;have H1:=aq av;obtain⟨aN,aL,aI,c3,bJ⟩:=av.cells;have f1:=av.frozen 1;have f4:=av.frozen 4;have TU:k≤300:=dB av.ur hS;clear h av he fV;by_cases bn:s1.e=0
  ·have E':((s1.e:Int)==0)=true:=(by rw[bn];rfl);have aX:=aq bn;clear bn;obtain⟨c,hc⟩:=ar (uu s1.r);have bz:=aq hc;by_cases CP:hd s1.r=41
   ·have t41:(c==41)=true:=(by rw[←hc,o7 CP];rfl);have c9:af (ud s1=⟨s1.r.drop 1,s1.ops,0⟩∧s1.r≠[]):=⟨by unfold ud;rw[a8 aX.out,a8 CP],by intro e;rw[e] at CP;exact absurd CP (by decide)⟩;clear hc CP;go_wp2_with fail;with_reducible refine (mT _ H1 c bz).mono ?_
    rintro e w' ⟨cL,rfl,rfl⟩;have bf:=aq ((H1.out.drewN cL).A8 c9.out.2 aX.out).any;go_wp2_with fail;go_end0;exact⟨rfl,by rw[b0.out,c9.out.1];exact bf.out⟩
   ·have t41:(c==41)=false:=(by rw[←hc];exact yb CP);have c9:af (ud s1=⟨s1.r,s1.ops,3⟩):=(by show _=_;unfold ud;rw[a8 aX.out,aR CP]);clear hc CP;go_wp2_with fail;with_reducible refine (mT _ H1 c bz).mono ?_
    rintro e w' ⟨cL,rfl,rfl⟩;go_wp2_with fail;refine bodyPost_ret (results_none rfl _ _ _) rfl ?_;exact⟨rfl,by rw[b0.out,c9.out];exact ((H1.out.drewN cL).err 3).any⟩
  ·have E':((s1.e:Int)==0)=false:=(by simp;omega);have c9:af (ud s1=s1):=(by show _=_;unfold ud;rw[aR bn]);clear bn;go_wp2_with fail;refine bodyPost_ret (results_none rfl _ _ _) rfl ?_;exact⟨rfl,by rw[b0.out,c9.out];exact H1.out.any⟩
theorem am4(h:xh (hd st.r)=false):fq d st=qW st:=by cases d<;>(rw[fq,aR (by rw[h];decide)])
theorem abQ(d:Nat)(hS:S.size≤300)(h:qy w0 S R deep st w)(he:st.e=0)(fV:st.ops.length+st.r.length≤300)(hs:xh (hd st.r)=false):
  Calls Tryz.prog 318 #[ah R 0] w (Left w0 S R deep (fq d st)):=by
 rw[am4 hs];obtain⟨k,v,h⟩:=h;have H:=aq h;obtain⟨aN,aL,aI,c3,bJ⟩:=h.cells;have f4:=h.frozen 4;have aA:st.ops.length≤1000:=by omega
 obtain⟨c,hc⟩:=ar (uu st.r);have bz:=aq hc;have hne:hd st.r≠43∧hd st.r≠45∧hd st.r≠40:=by refine⟨?_,?_,?_⟩<;>(intro e;rw[e] at hs;exact absurd hs (by decide))
 have t43:(c==43)=false:=by rw[←hc];exact yb hne.1
 have t45:(c==45)=false:=by rw[←hc];exact yb hne.2.1
 have t40:(c==40)=false:=by rw[←hc];exact yb hne.2.2
 clear h fV hs hne;by_cases pU:hd st.r=36
 ·have t36:(c==36)=true:=(by rw[←hc,o7 pU];rfl);have b0:af (qW st=kY st):=(by show _=_;unfold qW;rw[a8 pU]);have am5:=aq pU;clear hc pU;go_enter zD,zE;go_wp2_with fail;with_reducible refine (mT _ H c bz).mono ?_
  rintro e w' ⟨cL,rfl,rfl⟩;go_wp2_with fail;with_reducible refine (amU hS _ (H.out.drewN cL).any he aA am5.out).mono ?_
  rintro e bY ⟨rfl,az⟩;go_wp2_with fail;go_end0;exact⟨rfl,by rw[b0.out];exact az⟩
 ·have t36:(c==36)=false:=(by rw[←hc];exact yb pU);by_cases kZ:hd st.r=46
  ·have t46:(c==46)=true:=(by rw[←hc,o7 kZ];rfl);have b0:af (qW st=lp st):=(by show _=_;unfold qW;rw[aR pU,a8 (by rw[kZ];decide)]);clear hc pU kZ;go_enter zD,zE;go_wp2_with fail;with_reducible refine (mT _ H c bz).mono ?_
   rintro e w' ⟨cL,rfl,rfl⟩;go_wp2_with fail;with_reducible refine (Lb hS _ (H.out.drewN cL).any he aA).mono ?_
   rintro e bY ⟨rfl,az⟩;go_wp2_with fail;go_end0;exact⟨rfl,by rw[b0.out];exact az⟩
  ·have t46:(c==46)=false:=(by rw[←hc];exact yb kZ);obtain⟨b,ay⟩:=ar (e2 (hd st.r))
   have aO:af ((decide (48≤c)&&decide (c≤57))=b):=by
    show _=_;rw[←ay,←hc];unfold e2 uu
    congr 1<;>(rw[yY];omega)
   cases b with
   |true=>
    have b0:af (qW st=lp st):=(by show _=_;unfold qW;rw[aR pU,a8 (by rw[ay];simp)]);clear hc pU kZ ay;go_enter zD,zE;go_wp2_with fail;with_reducible refine (mT _ H c bz).mono ?_
    rintro e w' ⟨cL,rfl,rfl⟩;go_wp2_with fail;with_reducible refine (HN _ true aO _).mono ?_
    rintro e w' ⟨rfl,rfl⟩;go_wp2_with fail;with_reducible refine (Lb hS _ (H.out.drewN cL).any he aA).mono ?_
    rintro e bY ⟨rfl,az⟩;go_wp2_with fail;go_end0;exact⟨rfl,by rw[b0.out];exact az⟩
   |false=>
    have b0:af (qW st=⟨st.r,st.ops,3⟩):=(by show _=_;unfold qW;rw[aR pU,aR (by rw[ay];simpa using kZ)]);clear hc pU kZ ay;go_enter zD,zE;go_wp2_with fail;with_reducible refine (mT _ H c bz).mono ?_
    rintro e w' ⟨cL,rfl,rfl⟩;go_wp2_with fail;with_reducible refine (HN _ false aO _).mono ?_
    rintro e w' ⟨rfl,rfl⟩;go_wp2_with fail;go_end0;exact⟨rfl,by rw[b0.out];exact ((H.out.drewN cL).err 3).any⟩
theorem am6:E8 0:=by
 intro w0 S R deep st w hS qb h he fV;by_cases hs:xh (hd st.r)=true
 ·obtain⟨k,v,h⟩:=h;have H:=aq h;obtain⟨aN,aL,aI,c3,bJ⟩:=h.cells;have f4:=h.frozen 4;obtain⟨c,hc⟩:=ar (uu st.r);have bz:=aq hc;obtain rfl:deep=30:=(by omega);have b0:af (fq 0 st=⟨st.r,st.ops,6⟩):=(by show _=_;rw[fq,a8 hs]);have aX:af (Left w0 S R 30 (fq 0 st)=Left w0 S R 30 ⟨st.r,st.ops,6⟩):=(by show _=_;rw[b0.out]);clear h fV he;rcases Rp hs with aT|aT|aT
  ·skip
   have t43:(c==43)=true:=(by rw[←hc,o7 aT];rfl);clear hc hs aT;go_enter zD,zE;go_wp2_with fail;with_reducible refine (mT _ H c bz).mono ?_
   rintro e w' ⟨cL,rfl,rfl⟩;go_wp2_with fail;refine bodyPost_ret (results_none rfl _ _ _) rfl ?_;exact⟨rfl,by rw[b0.out];exact ((H.out.drewN cL).err 6).any⟩
  ·skip
   have t43:(c==43)=false:=(by rw[←hc,o7 aT];rfl);have t45:(c==45)=true:=(by rw[←hc,o7 aT];rfl);clear hc hs aT;go_enter zD,zE;go_wp2_with fail;with_reducible refine (mT _ H c bz).mono ?_
   rintro e w' ⟨cL,rfl,rfl⟩;go_wp2_with fail;refine bodyPost_ret (results_none rfl _ _ _) rfl ?_;exact⟨rfl,by rw[b0.out];exact ((H.out.drewN cL).err 6).any⟩
  ·skip
   have t43:(c==43)=false:=(by rw[←hc,o7 aT];rfl);have t45:(c==45)=false:=(by rw[←hc,o7 aT];rfl);have t40:(c==40)=true:=(by rw[←hc,o7 aT];rfl);clear hc hs aT;go_enter zD,zE;go_wp2_with fail;with_reducible refine (mT _ H c bz).mono ?_
   rintro e w' ⟨cL,rfl,rfl⟩;go_wp2_with fail;refine bodyPost_ret (results_none rfl _ _ _) rfl ?_;exact⟨rfl,by rw[b0.out];exact ((H.out.drewN cL).err 6).any⟩
 ·exact abQ 0 hS h he fV (by simpa using hs)
theorem hT.TV(h:hT w0 S R deep st k v w):hT w0 S R (deep+1) st k v (w.setCell (aj R 2) (I ((deep:Int)+1))):=h.NL (deep+1)
theorem am7(d:Nat)(Pj:Ph d):E8 (d+1):=by
 intro w0 S R deep st w hS qb h he fV;by_cases hs:xh (hd st.r)=true
 ·obtain⟨k,v,h⟩:=h;have H:=aq h;obtain⟨aN,aL,aI,c3,bJ⟩:=h.cells;have f1:=h.frozen 1;have f2:=h.frozen 2;have TU:k≤300:=dB h.ur hS;obtain⟨c,hc⟩:=ar (uu st.r);have bz:=aq hc;have axs:((deep:Int)==30)=false:=(by simp;omega);have b0:af (fq (d+1) st=rG (fq d) (hd st.r) ⟨st.r.drop 1,st.ops,0⟩):=(by show _=_;rw[fq,a8 hs,he]);have lH:=aq (XB hs);have bm:=aq he;have ld:af ((⟨st.r.drop 1,st.ops,0⟩:dF).ops.length+(⟨st.r.drop 1,st.ops,0⟩:dF).r.length≤300):=(by show st.ops.length+(st.r.drop 1).length≤300;rw[gI];omega);have TW:deep+1+d=30:=(by omega);have TX:=aq hs;have ve:af (c=((hd st.r).toNat:Int)):=(by show _=_;rw[←hc];rfl);clear h fV he;rcases Rp hs with aT|aT|aT
  ·skip
   have t43:(c==43)=true:=(by rw[←hc,o7 aT];rfl);clear hc hs aT;go_enter zD,zE;go_wp2_with fail;with_reducible refine (mT _ H c bz).mono ?_
   rintro e w' ⟨cL,rfl,rfl⟩;have bf:=aq ((H.out.drewN cL).A8 lH.out bm.out).TV.any;go_wp2_with fail;go_fit (Pj.use hS TW bf.out rfl ld.out TX.out ve);rintro e bY ⟨rfl,a7,v2,az⟩;have c1:=aq az;obtain⟨d0,d1,d2,d3,d4⟩:=az.cells;have g2:=az.frozen 2;have bq:=aq (az.NL deep).any;clear az aN aL aI c3 bJ f1 f2;go_wp2_with fail;go_end0;exact⟨rfl,by rw[b0.out];exact bq.out⟩
  ·skip
   have t43:(c==43)=false:=(by rw[←hc,o7 aT];rfl);have t45:(c==45)=true:=(by rw[←hc,o7 aT];rfl);clear hc hs aT;go_enter zD,zE;go_wp2_with fail;with_reducible refine (mT _ H c bz).mono ?_
   rintro e w' ⟨cL,rfl,rfl⟩;have bf:=aq ((H.out.drewN cL).A8 lH.out bm.out).TV.any;go_wp2_with fail;go_fit (Pj.use hS TW bf.out rfl ld.out TX.out ve);rintro e bY ⟨rfl,a7,v2,az⟩;have c1:=aq az;obtain⟨d0,d1,d2,d3,d4⟩:=az.cells;have g2:=az.frozen 2;have bq:=aq (az.NL deep).any;clear az aN aL aI c3 bJ f1 f2;go_wp2_with fail;go_end0;exact⟨rfl,by rw[b0.out];exact bq.out⟩
  ·skip
   have t43:(c==43)=false:=(by rw[←hc,o7 aT];rfl);have t45:(c==45)=false:=(by rw[←hc,o7 aT];rfl);have t40:(c==40)=true:=(by rw[←hc,o7 aT];rfl);clear hc hs aT;go_enter zD,zE;go_wp2_with fail;with_reducible refine (mT _ H c bz).mono ?_
   rintro e w' ⟨cL,rfl,rfl⟩;have bf:=aq ((H.out.drewN cL).A8 lH.out bm.out).TV.any;go_wp2_with fail;go_fit (Pj.use hS TW bf.out rfl ld.out TX.out ve);rintro e bY ⟨rfl,a7,v2,az⟩;have c1:=aq az;obtain⟨d0,d1,d2,d3,d4⟩:=az.cells;have g2:=az.frozen 2;have bq:=aq (az.NL deep).any;clear az aN aL aI c3 bJ f1 f2;go_wp2_with fail;go_end0;exact⟨rfl,by rw[b0.out];exact bq.out⟩
 ·exact abQ (d+1) hS h he fV (by simpa using hs)
theorem TY:∀d,E8 d
 |0=>am6
 |d+1=>am7 d (am2 d (TY d) (abP d (abO d (TY d))))
theorem am8:Ld 30:=abP 30 (abO 30 (TY 30))
def am9(l:List (Int×Int))(a e:Nat)(w:aeo)(jY:Ending)(w':aeo):Prop:=
 ∃v,jY=ab (.tuple #[v,I (a:Int),I (e:Int)])∧w'.ownsRow w.heap.size 413 2 v l.length (rT l)∧ao w w w'
theorem TZ(w:aeo)(B:Nat):w.ownsRow B 413 2 (J 0) ([]:List (Int×Int)).length (rT []):=⟨rfl,.inl ⟨rfl,rfl⟩⟩
theorem abR(S:Ua)(hm:S.size≤maxLen)(w:aeo)(l:List (Int×Int))(a e:Nat)(hp:af (vH S.data.toList=(l,a,e))):
  Calls Tryz.prog 222 #[aa S] w (am9 l a e w):=by
 unfold maxLen at hm;have hlen:S.data.toList.length=S.size:=cG S;by_cases axt:300<(S.size:Int)
 ·have hx:=hp.out;unfold vH at hx;rw[a8 (by omega)] at hx;simp only[fS] at hx;obtain⟨rfl,rfl,rfl⟩:=hx;clear hlen;go_enter Tryz.func222,Tryz.ntmps222;go_wp2_with fail;go_ret3;exact⟨_,rfl,TZ w _,Below.refl _ _⟩
 ·have hS:S.size≤300:=(by omega);obtain⟨s1,rh⟩:=ar (yV S.data.toList);have c2:af ((if sN s1=0 then (s1.ops,0,0) else ([],S.size-s1.r.length,sN s1))=(l,a,e)):=(by show _=_;have hx:=hp.out;unfold vH at hx;rw[aR (by omega),rh,hlen] at hx;exact hx);have kk:af (vG (fq 30) ⟨S.data.toList,[],0⟩=s1):=rh
  have ana:af (qy w S w.heap.size 0 ⟨S.data.toList,[],0⟩ (w.alloc (NJ S 0 0 (J 0) 0))):=
   ⟨0,J 0,eE _,rfl,ga w _,⟨rfl,.inl ⟨rfl,rfl⟩⟩,(Below.refl _ _).alloc (bx _) _,bx _⟩
  have bz:af ((⟨S.data.toList,[],0⟩:dF).ops.length+(⟨S.data.toList,[],0⟩:dF).r.length≤300):=(by show 0+S.data.toList.length≤300;omega);clear rh hlen hp;go_enter Tryz.func222,Tryz.ntmps222;go_wp2_with fail;go_fit (am8.use (st:=⟨S.data.toList,[],0⟩) hS rfl ana.out rfl bz.out);rw[kk.out];rintro jY bV ⟨rfl,k,v,av⟩;have H1:=aq av;have AH:=av.ur;have im:=aq av.len;obtain⟨aN,aL,aI,c3,bJ⟩:=av.cells;have f4:=av.frozen 4;clear av;by_cases bn:s1.e=0
  ·have E':((s1.e:Int)==0)=true:=(by rw[bn];rfl);by_cases hr:k<S.size
   ·have bm:af (l=[]∧a=k∧e=3):=(by have hx:=c2.out;have T0:s1.r≠[]:=(by intro e;have:=im.out;rw[e] at this;simp at this;omega);have aF:sN s1=3:=(by unfold sN;rw[a8 bn,aR T0]);rw[aF,aR (by decide)] at hx;simp only[fS] at hx;exact⟨hx.1.symm,by have:=im.out;omega,hx.2.2.symm⟩);obtain⟨rfl,rfl,rfl⟩:=bm.out;clear bn c2 kk;have aO:af (ao w w (bV.setCell (aj w.heap.size 4) (I 3))):=H1.out.aZ.setCell (bx _) _;go_wp2_with fail
    go_quiet (fail)
    go_wp2_with fail;go_ret3;exact⟨_,rfl,TZ _ _,below_drewN aO.out _⟩
   ·have bm:af (l=s1.ops∧a=0∧e=0):=(by have hx:=c2.out;have T0:s1.r=[]:=(by have:=im.out;exact rQ (by omega));have aF:sN s1=0:=(by unfold sN;rw[a8 bn,a8 T0]);rw[aF,a8 rfl] at hx;simp only[fS] at hx;exact⟨hx.1.symm,hx.2.1.symm,hx.2.2.symm⟩);obtain⟨rfl,rfl,rfl⟩:=bm.out;clear bn c2 kk;go_wp2_with fail;go_ret3;exact⟨v,rfl,H1.out.own,H1.out.aZ⟩
  ·have E':((s1.e:Int)==0)=false:=(by simp;omega);have bm:af (l=[]∧a=k∧e=s1.e):=(by have hx:=c2.out;have aF:sN s1=s1.e:=(by unfold sN;rw[aR bn]);rw[aF,aR bn] at hx;simp only[fS] at hx;exact⟨hx.1.symm,by have:=im.out;omega,hx.2.2.symm⟩);obtain⟨rfl,rfl,rfl⟩:=bm.out;clear bn c2 kk;go_wp2_with fail
   go_quiet (fail)
   go_wp2_with fail;go_ret3;exact⟨_,rfl,TZ _ _,below_drewN H1.out.aZ _⟩
end p1
