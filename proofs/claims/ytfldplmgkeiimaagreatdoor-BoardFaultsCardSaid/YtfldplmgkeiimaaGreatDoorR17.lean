/- Lemmas. -/
import Derived.Test.YtfldplmgkeiimaaGreatDoorR1
set_option linter.all false
set_option maxRecDepth 100000
set_option maxHeartbeats 3200000
namespace Go.Proofs.YtfldplmgkeiimaaGreatDoor
abbrev SW:=@Nat.sub_self
abbrev Gt:=@List.getD_eq_getElem?_getD
abbrev yU:=@Proofs.Tryz.func318
abbrev yV:=@Proofs.Tryz.ntmps318
namespace pN
open Go.RowKit ig kR wu Mem
theorem Gu(X:Int)(b:Bool)(ax:af ((decide (48≤X)&&decide (X≤57))=b))(w:aeo):
  Calls Tryz.prog 330 #[.int .u8 X] w fun e w'=>e=ab (U b)∧w=w':=by
 by_cases av:48≤X
 ·by_cases az:X≤57
  ·obtain rfl:true=b:=(by rw[←ax.out];simp[av,az]);go_enter Tryz.func330,Tryz.ntmps330;go_wp2_with fail;go_ret;exact⟨rfl,rfl⟩
  ·obtain rfl:false=b:=(by rw[←ax.out];simp[az]);go_enter Tryz.func330,Tryz.ntmps330;go_wp2_with fail;go_ret;exact⟨rfl,rfl⟩
 ·obtain rfl:false=b:=(by rw[←ax.out];simp[av]);go_enter Tryz.func330,Tryz.ntmps330;go_wp2_with fail;go_ret;exact⟨rfl,rfl⟩
variable{S:Ua}{i k:Nat}
theorem Gv(h:i<S.size):∃X:Nat,S[i].toNat=X∧X<256:=⟨_,rfl,UInt8.toNat_lt _⟩
theorem drop_at{j:Nat}(h:k+j<S.size):∃cd:j<(S.data.toList.drop k).length,(S.data.toList.drop k)[j]=S[k+j]:=by have aA:S.data.toList.length=S.size:=cb S;exact⟨by rw[fH,aA];omega,by rw[List.getElem_drop];rfl⟩
theorem ZF(ay:k≤i)(h:i<S.size)(cd:i-k≤bn (S.data.toList.drop k))(hd:fi S[i]=true):i+1-k≤bn (S.data.toList.drop k):=by obtain⟨j,rfl⟩:∃j,i=k+j:=⟨i-k,by omega⟩;obtain⟨av,az⟩:=drop_at h;have:=HV (k:=j) (by omega) av (by rw[az];exact hd);omega
theorem ZG(ay:k≤i)(h:i<S.size)(cd:i-k≤bn (S.data.toList.drop k))(hd:fi S[i]=false):k+bn (S.data.toList.drop k)=i:=by obtain⟨j,rfl⟩:∃j,i=k+j:=⟨i-k,by omega⟩;obtain⟨av,az⟩:=drop_at h;have:=CI (k:=j) (by omega) av (by rw[az];exact hd);omega
theorem ZH(ay:k≤i)(h:¬i<S.size)(hi:i≤S.size)(cd:i-k≤bn (S.data.toList.drop k)):k+bn (S.data.toList.drop k)=i:=by have av:=qd (S.data.toList.drop k);rw[fH,cb] at av;omega
theorem SX{X:Nat}(h:i<S.size)(c7:S[i].toNat=X)(b:Bool)(ax:fi S[i]=b):(decide (48≤(X:Int))&&decide ((X:Int)≤57))=b:=by
 rw[←ax,←c7];unfold fi
 congr 1<;>(rw[decide_eq_decide];omega)
theorem ZI{R:Nat}(hS:S.size≤300)(w:aeo)(aS:ak w R 0 (aa S))(k:Nat)(ay:k≤S.size)(a:Int)(ha:af (a=(k:Int)))(m:Nat)(hm:af (k+bn (S.data.toList.drop k)=m)):
  Calls Tryz.prog 335 #[ah R 0,I a] w fun e w'=>e=ab (I (m:Int))∧w=w':=by
 obtain rfl:=ha.out;go_enter Tryz.func335,Tryz.ntmps335;go_wp2_with fail
 go_loop [1] (fun a=>∃i:Nat,k≤i∧i≤S.size∧a=I (i:Int)∧af (i-k≤bn (S.data.toList.drop k))) (fun a=>S.size -(intOf a).toNat)
 case atStart=>exact⟨k,by omega,by omega,rfl,by show k-k≤_;omega⟩
 case round=>
  obtain⟨i,qP,JP,rfl,mC⟩:=hrel;by_cases bR:i<S.size
  ·obtain⟨X,c7,vH⟩:=Gv bR;obtain⟨b,ax⟩:=ar (fi S[i]);have aI:af ((decide (48≤(X:Int))&&decide ((X:Int)≤57))=b):=SX bR c7 b ax;have SY:((S[i].toNat:Nat):Int)=(X:Int):=(by rw[c7]);have bd:af ((b=true→i+1-k≤bn (S.data.toList.drop k))∧(b=false→k+bn (S.data.toList.drop k)=i)):=⟨fun h=>ZF qP bR mC.out (ax.trans h),fun h=>ZG qP bR mC.out (ax.trans h)⟩;clear c7 ax;cases b with
   |true=>
    go_wp2_with fail;with_reducible refine (Gu _ true aI _).mono ?_
    rintro e w' ⟨rfl,rfl⟩;go_wp2_with fail;go_round
    case rel=>exact⟨i+1,by omega,by omega,by go_num,bd.out.1 trivial⟩
    case measure=>simp[intOf];omega
   |false=>
    have bH:af (((i:Nat):Int)=(m:Int)):=(by show _=_;rw[←hm.out,bd.out.2 rfl]);go_wp2_with fail;with_reducible refine (Gu _ false aI _).mono ?_
    rintro e w' ⟨rfl,rfl⟩;go_wp2_with fail;go_ret;exact⟨CP bH.out,rfl⟩
  ·have bH:af (((i:Nat):Int)=(m:Int)):=(by show _=_;rw[←hm.out,ZH qP bR JP mC.out]);go_wp2_with fail;go_ret;exact⟨CP bH.out,rfl⟩
theorem ajO(l:au)(c:UInt8):q1 (l++[c])=min (10 *q1 l+(c.toNat-48)) 100:=by simp[q1]
theorem ajP{m X:Nat}(ay:k≤i)(h:i<S.size)(c7:S[i].toNat=X)(hm:q1 ((S.data.toList.drop k).take (i-k))=m):q1 ((S.data.toList.drop k).take (i+1-k))=min (10 *m+(X-48)) 100:=by obtain⟨j,rfl⟩:∃j,i=k+j:=⟨i-k,by omega⟩;obtain⟨av,az⟩:=drop_at h;rw[show k+j-k=j by omega] at hm;rw[show k+j+1-k=j+1 by omega,wy av,ajO,hm,az,c7]
theorem ZJ{r:au}(h:S.data.toList.drop k=r)(hne:r≠[]):k<S.size∧S.data.toList.drop (k+1)=r.drop 1:=by have av:=fp List.length h;rw[fH,cb] at av;have az:=List.length_pos_iff.2 hne;refine⟨by omega,?_⟩;rw[←h,List.drop_drop]
theorem SZ(h:k<S.size):hd (S.data.toList.drop k)=S[k]:=by
 have aA:k<S.data.toList.length:=by rw[cb];exact h
 rw[lD aA];rfl
theorem ajQ{w0:aeo}{R deep:Nat}{st:du}(hS:S.size≤300)(w:aeo)(h:pO w0 S R deep st w)(he:st.e=0)(aA:st.ops.length≤1000)(pj:hd st.r=36):
  Calls Tryz.prog 329 #[ah R 0] w (Left w0 S R deep (kP st)):=by
 obtain⟨k,v,h⟩:=h;have hne:st.r≠[]:=by intro e;rw[e] at pj;exact absurd pj (by decide)
 obtain⟨zL,hx⟩:=ZJ h.rest hne;have H:=aq h;obtain⟨aQ,aN,aJ,c3,bF⟩:=h.cells;have f4:=h.frozen 4;have cR:=aq hx;have bl:=aq he;clear h hx he pj hne;go_enter Tryz.func329,Tryz.ntmps329;go_wp2_with fail
 go_loop [2,3] (fun a n=>∃i m:Nat,k+1≤i∧i≤S.size∧m≤100∧a=I (i:Int)∧n=I (m:Int)∧af (i -(k+1)≤bn (S.data.toList.drop (k+1))∧q1 ((S.data.toList.drop (k+1)).take (i -(k+1)))=m)) (fun a _=>S.size -(intOf a).toNat)
 case atStart=>exact⟨k+1,0,by omega,by omega,by omega,by go_num,rfl,by show k+1 -(k+1)≤_;omega,by rw[SW];rfl⟩
 case round=>
  obtain⟨i,m,qP,JP,hm,rfl,rfl,mC⟩:=hrel;by_cases yW:i<S.size∧fi (S.data.toList.getD i 0)=true
  ·obtain⟨bR,ZK⟩:=yW;have BX:fi S[i]=true:=(by have:S.data.toList.getD i 0=S[i]:=(by rw[Gt,mx (by rw[cb];exact bR)];rfl);rw[←this];exact ZK);obtain⟨X,c7,vH⟩:=Gv bR;have aI:af ((decide (48≤(X:Int))&&decide ((X:Int)≤57))=true):=SX bR c7 true BX;have SY:((S[i].toNat:Nat):Int)=(X:Int):=(by rw[c7]);have ajR:48≤X∧X≤57:=(by rw[←c7];exact (ph _).1 BX);obtain⟨awq,awr⟩:=ajR;obtain⟨V,nk⟩:∃V:Nat,min (10 *m+(X-48)) 100=V:=⟨_,rfl⟩;have aws:min (10 *(m:Int)+((X:Int)-48)) 100=(V:Int):=(by omega);have ajS:V≤100:=(by omega);have bd:af (i+1 -(k+1)≤bn (S.data.toList.drop (k+1))∧q1 ((S.data.toList.drop (k+1)).take (i+1 -(k+1)))=V):=⟨ZF qP bR mC.out.1 BX,by rw[ajP qP bR c7 mC.out.2,nk]⟩;clear c7 nk ZK BX;go_wp2_with fail;with_reducible refine (Gu _ true aI _).mono ?_
   rintro e w' ⟨rfl,rfl⟩;go_wp2_with fail;go_round
   case rel=>exact⟨i+1,V,by omega,by omega,ajS,by go_num,rfl,bd⟩
   case measure=>simp[intOf];omega
  ·by_cases bR:i<S.size
   ·obtain⟨X,c7,vH⟩:=Gv bR;have BX:fi S[i]=false:=(by rw[x6];intro ih;apply yW;refine⟨bR,?_⟩;have:S.data.toList.getD i 0=S[i]:=(by rw[Gt,mx (by rw[cb];exact bR)];rfl);rw[this];exact ih);have aI:af ((decide (48≤(X:Int))&&decide ((X:Int)≤57))=false):=SX bR c7 false BX;have SY:((S[i].toNat:Nat):Int)=(X:Int):=(by rw[c7]);have JQ:=ZG qP bR mC.out.1 BX;have aO:af (k+1+bn (S.data.toList.drop (k+1))=i∧q1 ((S.data.toList.drop (k+1)).take (bn (S.data.toList.drop (k+1))))=m):=⟨JQ,by rw[←mC.out.2];congr 2;omega⟩;clear c7 BX yW JQ;go_wp2_with fail;with_reducible refine (Gu _ false aI _).mono ?_
    rintro e w' ⟨rfl,rfl⟩;go_wp2_with fail;by_cases mX:(m:Int)<1
    ·have b0:af (kP st=⟨st.r,st.ops,3⟩):=by show _=_;unfold kP;rw[←cR.out,aO.out.2,bb (.inl (by omega))]
     go_quiet (fail)
     go_wp2_with fail;refine bodyPost_ret (results_none rfl _ _ _) rfl ?_;exact⟨rfl,by rw[b0.out];exact⟨k,v,(H.out.drewN _).err 3⟩⟩
    ·by_cases jB:99<(m:Int)
     ·have b0:af (kP st=⟨st.r,st.ops,3⟩):=by show _=_;unfold kP;rw[←cR.out,aO.out.2,bb (.inr (.inl (by omega)))]
      go_quiet (fail)
      go_wp2_with fail;refine bodyPost_ret (results_none rfl _ _ _) rfl ?_;exact⟨rfl,by rw[b0.out];exact⟨k,v,(H.out.drewN _).err 3⟩⟩
     ·have ej:k+1<S.size:=(by apply uK;intro hn;have av:=aO.out.2;rw[mU (by rw[cb];omega)] at av;have az:q1 (List.take (bn []) [])=0:=rfl;omega);obtain⟨Y,k9,ajU⟩:=Gv ej;have ajV:((S[k+1].toNat:Nat):Int)=(Y:Int):=(by rw[k9]);have aK:hd (st.r.drop 1)=S[k+1]:=(by rw[←cR.out];exact SZ ej);by_cases h0:Y=48
      ·have t48:((Y:Int)==48)=true:=(by rw[h0];rfl);have b0:af (kP st=⟨st.r,st.ops,3⟩):=(by show _=_;unfold kP;rw[bb (.inr (.inr (by rw[aK];apply UInt8.toNat_inj.1;rw[k9,h0];rfl)))]);clear aK k9 h0
       go_quiet (fail)
       go_wp2_with fail;refine bodyPost_ret (results_none rfl _ _ _) rfl ?_;exact⟨rfl,by rw[b0.out];exact⟨k,v,(H.out.drewN _).err 3⟩⟩
      ·have t48:((Y:Int)==48)=false:=by simp;omega
       have b0:af (kP st=⟨(st.r.drop 1).drop (bn (st.r.drop 1)),st.ops++[(2,(m:Int))],0⟩∧put st 2 (m:Int)=⟨st.r,st.ops++[(2,(m:Int))],0⟩∧S.data.toList.drop i=(st.r.drop 1).drop (bn (st.r.drop 1))):=by
        refine⟨?_,by unfold put;rw[bb bl.out],by rw[←cR.out,List.drop_drop,aO.out.1]⟩;unfold kP;rw[←cR.out,aO.out.2,aW];rintro (h|h|h)
        ·omega
        ·omega
        ·rw[cR.out,aK] at h;apply h0;rw[←k9,h];rfl
       clear aK k9 h0
       go_quiet (fail)
       go_wp2_with fail;with_reducible refine (wA _ (H.out.drewN _).any aA 2 (m:Int)).mono ?_
       rintro e w' ⟨rfl,p3,v',fD⟩;have xt:=aq fD;obtain⟨d0,d1,d2,d3,d4⟩:=fD.cells;have f1:=fD.frozen 1;clear fD aQ aN aJ c3 bF f4;go_wp2_with fail;go_end0;refine⟨rfl,i,v',?_⟩;have kK:=xt.out.step JP rfl;rw[b0.out.2.1,b0.out.2.2] at kK;rw[b0.out.1];exact kK
   ·have JQ:=ZH qP bR JP mC.out.1;have aO:af (k+1+bn (S.data.toList.drop (k+1))=i∧q1 ((S.data.toList.drop (k+1)).take (bn (S.data.toList.drop (k+1))))=m):=⟨JQ,by rw[←mC.out.2];congr 2;omega⟩;clear yW JQ;go_wp2_with fail;by_cases mX:(m:Int)<1
    ·have b0:af (kP st=⟨st.r,st.ops,3⟩):=by show _=_;unfold kP;rw[←cR.out,aO.out.2,bb (.inl (by omega))]
     go_quiet (fail)
     go_wp2_with fail;refine bodyPost_ret (results_none rfl _ _ _) rfl ?_;exact⟨rfl,by rw[b0.out];exact⟨k,v,(H.out.drewN _).err 3⟩⟩
    ·by_cases jB:99<(m:Int)
     ·have b0:af (kP st=⟨st.r,st.ops,3⟩):=by show _=_;unfold kP;rw[←cR.out,aO.out.2,bb (.inr (.inl (by omega)))]
      go_quiet (fail)
      go_wp2_with fail;refine bodyPost_ret (results_none rfl _ _ _) rfl ?_;exact⟨rfl,by rw[b0.out];exact⟨k,v,(H.out.drewN _).err 3⟩⟩
     ·have ej:k+1<S.size:=(by apply uK;intro hn;have av:=aO.out.2;rw[mU (by rw[cb];omega)] at av;have az:q1 (List.take (bn []) [])=0:=rfl;omega);obtain⟨Y,k9,ajU⟩:=Gv ej;have ajV:((S[k+1].toNat:Nat):Int)=(Y:Int):=(by rw[k9]);have aK:hd (st.r.drop 1)=S[k+1]:=(by rw[←cR.out];exact SZ ej);by_cases h0:Y=48
      ·have t48:((Y:Int)==48)=true:=(by rw[h0];rfl);have b0:af (kP st=⟨st.r,st.ops,3⟩):=(by show _=_;unfold kP;rw[bb (.inr (.inr (by rw[aK];apply UInt8.toNat_inj.1;rw[k9,h0];rfl)))]);clear aK k9 h0
       go_quiet (fail)
       go_wp2_with fail;refine bodyPost_ret (results_none rfl _ _ _) rfl ?_;exact⟨rfl,by rw[b0.out];exact⟨k,v,(H.out.drewN _).err 3⟩⟩
      ·have t48:((Y:Int)==48)=false:=by simp;omega
       have b0:af (kP st=⟨(st.r.drop 1).drop (bn (st.r.drop 1)),st.ops++[(2,(m:Int))],0⟩∧put st 2 (m:Int)=⟨st.r,st.ops++[(2,(m:Int))],0⟩∧S.data.toList.drop i=(st.r.drop 1).drop (bn (st.r.drop 1))):=by
        refine⟨?_,by unfold put;rw[bb bl.out],by rw[←cR.out,List.drop_drop,aO.out.1]⟩;unfold kP;rw[←cR.out,aO.out.2,aW];rintro (h|h|h)
        ·omega
        ·omega
        ·rw[cR.out,aK] at h;apply h0;rw[←k9,h];rfl
       clear aK k9 h0
       go_quiet (fail)
       go_wp2_with fail;with_reducible refine (wA _ (H.out.drewN _).any aA 2 (m:Int)).mono ?_
       rintro e w' ⟨rfl,p3,v',fD⟩;have xt:=aq fD;obtain⟨d0,d1,d2,d3,d4⟩:=fD.cells;have f1:=fD.frozen 1;clear fD aQ aN aJ c3 bF f4;go_wp2_with fail;go_end0;refine⟨rfl,i,v',?_⟩;have kK:=xt.out.step JP rfl;rw[b0.out.2.1,b0.out.2.2] at kK;rw[b0.out.1];exact kK
end pN
namespace pN
open Go.RowKit ig kR wu Mem n1
theorem S0(s:Ua)(v:Int)(b:Bool)(aY:af ((dec s.data.toList).getD 0=v∧(dec s.data.toList).isSome=b))(hs:s.size≤maxLen)(w:aeo):
  Calls Tryz.prog 136 #[aa s] w fun e w'=>e=ab (.tuple #[I v,U b])∧w'=w:=by
 obtain⟨av,az⟩:=aY.out;subst av;subst az;exact (Mg s w hs).mono fun _ _ h=>⟨h.1,h.2.symm⟩
theorem ZL(S:Ua)(k m:Nat):(S.extract k m).data.toList=(S.data.toList.drop k).take (m-k):=by rw[x8]
variable{S:Ua}{k R deep d:Nat}
theorem ajW{m1:Nat}(mX:k+bn (S.data.toList.drop k)=m1):
  (¬(m1<S.size∧hd (S.data.toList.drop m1)=46)→k+nC (S.data.toList.drop k)=m1)∧(hd (S.data.toList.drop m1)=46→k+nC (S.data.toList.drop k)=m1+1+bn (S.data.toList.drop (m1+1))):=by
 have a7:(S.data.toList.drop k).drop (bn (S.data.toList.drop k))=S.data.toList.drop m1:=by rw[List.drop_drop,mX]
 have bf:(S.data.toList.drop k).drop (bn (S.data.toList.drop k)+1)=S.data.toList.drop (m1+1):=by rw[List.drop_drop];congr 1;omega
 unfold nC;rw[a7,bf];constructor
 ·intro h;rw[aW]
  ·exact mX
  ·intro kQ;apply h;refine⟨?_,kQ⟩;apply uK;intro hn;rw[mU (by rw[cb];omega)] at kQ;exact absurd kQ (by decide)
 ·intro h;rw[bb h];omega
theorem ZM(S:Ua)(k:Nat)(ay:k≤S.size):k+bn (S.data.toList.drop k)≤S.size:=by have av:=qd (S.data.toList.drop k);rw[fH,cb] at av;omega
variable{w0 w:aeo}{st goal:du}
theorem JR(hS:S.size≤300)(w:aeo)(h:pO w0 S R deep st w)(he:st.e=0)(aA:st.ops.length≤1000):
  Calls Tryz.prog 331 #[ah R 0] w (Left w0 S R deep (lb st)):=by
 obtain⟨k,v,h⟩:=h;have ay:=h.tp;have H:=aq h;obtain⟨aQ,aN,aJ,c3,bF⟩:=h.cells;have f1:=h.frozen 1;have f4:=h.frozen 4;have bl:=aq he;obtain⟨m1,mX⟩:=ar (k+bn (S.data.toList.drop k));have kd:=aq mX;have awt:m1≤S.size:=by rw[←mX];exact ZM S k ay
 have awu:k≤m1:=by omega
 obtain⟨m,hm⟩:=ar (k+nC (S.data.toList.drop k));have bH:=aq hm;have hne:=ajW mX
 have JS:k≤m∧m≤S.size:=by
  refine⟨by omega,?_⟩;by_cases kQ:m1<S.size∧hd (S.data.toList.drop m1)=46
  ·have av:=hne.2 kQ.2;have az:=ZM S (m1+1) (by omega);omega
  ·have av:=hne.1 kQ;omega
 obtain⟨wF,JS⟩:=JS;have iM:=aq hne;clear h he mX hm hne;obtain⟨z,cz⟩:=ar ((dec (S.extract k m).data.toList).getD 0);obtain⟨b,ax⟩:=ar ((dec (S.extract k m).data.toList).isSome);have bT:af ((dec (S.extract k m).data.toList).getD 0=z∧(dec (S.extract k m).data.toList).isSome=b):=⟨cz,ax⟩;have lq:(S.extract k m).size≤300:=by have av:=fp List.length (ZL S k m);rw[cb,List.length_take] at av;omega
 have Gw:af ((S.extract k m).data.toList=st.r.take (nC st.r)):=by
  show _=_;rw[ZL,H.out.rest]
  congr 1
  have:=bH.out;rw[H.out.rest] at this;omega
 clear cz ax;have i0:(0:Int)≤(k:Int):=by omega
 have lN:(k:Int)≤(m:Int):=by omega
 have i2:(m:Int)≤(S.size:Int):=by omega
 go_enter Tryz.func331,Tryz.ntmps331;go_wp2_with fail;with_reducible refine (ZI hS _ aQ k ay _ (aq (Eq.refl _)) m1 kd).mono ?_
 rintro e w' ⟨rfl,rfl⟩;by_cases bR:m1<S.size
 ·obtain⟨X,c7,vH⟩:=Gv bR;have SY:((S[m1].toNat:Nat):Int)=(X:Int):=(by rw[c7]);have aK:=SZ bR;by_cases kQ:X=46
  ·have t46:((X:Int)==46)=true:=(by rw[kQ];rfl);have ajX:af (m1+1+bn (S.data.toList.drop (m1+1))=m):=(by show _=_;rw[←bH.out];exact (iM.out.2 (by rw[aK];apply UInt8.toNat_inj.1;rw[c7,kQ];rfl)).symm);have ajY:af ((m1:Int)+1=((m1+1:Nat):Int)):=(by show _=_;omega);clear c7 aK kQ;go_wp2_with fail;with_reducible refine (ZI hS _ aQ (m1+1) (by omega) _ ajY m ajX).mono ?_
   rintro e w' ⟨rfl,rfl⟩;go_wp2_with fail
   go_quiet ((go_at_call 136;exact Calls.quiet_of_same (S0 _ z b bT (by unfold maxLen;omega) _)))
   cases b with
   |false=>
    have b0:af (lb st=⟨st.r,st.ops,3⟩):=by
     show _=_;have av:=bT.out.2;rw[Gw.out] at av;unfold lb;cases ih:dec (st.r.take (nC st.r)) with
     |none=>rfl
     |some n=>rw[ih] at av;cases av
    go_wp2_with fail;refine bodyPost_ret (results_none rfl _ _ _) rfl ?_;exact⟨rfl,by rw[b0.out];exact⟨k,v,(H.out.drewN _).err 3⟩⟩
   |true=>
    have b0:af (lb st=⟨st.r.drop (nC st.r),st.ops++[(1,z)],0⟩∧put st 1 z=⟨st.r,st.ops++[(1,z)],0⟩∧S.data.toList.drop m=st.r.drop (nC st.r)):=by
     refine⟨?_,by unfold put;rw[bb bl.out],by rw[←bH.out,H.out.rest,←List.drop_drop,H.out.rest]⟩;have av:=bT.out;rw[Gw.out] at av;unfold lb;cases ih:dec (st.r.take (nC st.r)) with
     |none=>rw[ih] at av;cases av.2
     |some n=>rw[ih] at av;have az:n=z:=av.1;rw[az]
    go_wp2_with fail;with_reducible refine (wA _ (H.out.drewN _).any aA 1 z).mono ?_
    rintro e w' ⟨rfl,p3,v',fD⟩;have xt:=aq fD;obtain⟨d0,d1,d2,d3,d4⟩:=fD.cells;have g1:=fD.frozen 1;clear fD aQ aN aJ c3 bF f4 f1;go_wp2_with fail;go_end0;refine⟨rfl,m,v',?_⟩;have kK:=xt.out.step JS rfl;rw[b0.out.2.1,b0.out.2.2] at kK;rw[b0.out.1];exact kK
  ·have t46:((X:Int)==46)=false:=(by simp;omega);obtain rfl:m1=m:=(by rw[←bH.out];refine (iM.out.1 ?_).symm;rintro⟨_,h⟩;rw[aK] at h;apply kQ;rw[←c7,h];rfl);clear c7 aK kQ;go_wp2_with fail
   go_quiet ((go_at_call 136;exact Calls.quiet_of_same (S0 _ z b bT (by unfold maxLen;omega) _)))
   cases b with
   |false=>
    have b0:af (lb st=⟨st.r,st.ops,3⟩):=by
     show _=_;have av:=bT.out.2;rw[Gw.out] at av;unfold lb;cases ih:dec (st.r.take (nC st.r)) with
     |none=>rfl
     |some n=>rw[ih] at av;cases av
    go_wp2_with fail;refine bodyPost_ret (results_none rfl _ _ _) rfl ?_;exact⟨rfl,by rw[b0.out];exact⟨k,v,(H.out.drewN _).err 3⟩⟩
   |true=>
    have b0:af (lb st=⟨st.r.drop (nC st.r),st.ops++[(1,z)],0⟩∧put st 1 z=⟨st.r,st.ops++[(1,z)],0⟩∧S.data.toList.drop m1=st.r.drop (nC st.r)):=by
     refine⟨?_,by unfold put;rw[bb bl.out],by rw[←bH.out,H.out.rest,←List.drop_drop,H.out.rest]⟩;have av:=bT.out;rw[Gw.out] at av;unfold lb;cases ih:dec (st.r.take (nC st.r)) with
     |none=>rw[ih] at av;cases av.2
     |some n=>rw[ih] at av;have az:n=z:=av.1;rw[az]
    go_wp2_with fail;with_reducible refine (wA _ (H.out.drewN _).any aA 1 z).mono ?_
    rintro e w' ⟨rfl,p3,v',fD⟩;have xt:=aq fD;obtain⟨d0,d1,d2,d3,d4⟩:=fD.cells;have g1:=fD.frozen 1;clear fD aQ aN aJ c3 bF f4 f1;go_wp2_with fail;go_end0;refine⟨rfl,m1,v',?_⟩;have kK:=xt.out.step JS rfl;rw[b0.out.2.1,b0.out.2.2] at kK;rw[b0.out.1];exact kK
 ·obtain rfl:m1=m:=(by rw[←bH.out];exact (iM.out.1 (fun h=>bR h.1)).symm);go_wp2_with fail
  go_quiet ((go_at_call 136;exact Calls.quiet_of_same (S0 _ z b bT (by unfold maxLen;omega) _)))
  cases b with
  |false=>
   have b0:af (lb st=⟨st.r,st.ops,3⟩):=by
    show _=_;have av:=bT.out.2;rw[Gw.out] at av;unfold lb;cases ih:dec (st.r.take (nC st.r)) with
    |none=>rfl
    |some n=>rw[ih] at av;cases av
   go_wp2_with fail;refine bodyPost_ret (results_none rfl _ _ _) rfl ?_;exact⟨rfl,by rw[b0.out];exact⟨k,v,(H.out.drewN _).err 3⟩⟩
  |true=>
   have b0:af (lb st=⟨st.r.drop (nC st.r),st.ops++[(1,z)],0⟩∧put st 1 z=⟨st.r,st.ops++[(1,z)],0⟩∧S.data.toList.drop m1=st.r.drop (nC st.r)):=by
    refine⟨?_,by unfold put;rw[bb bl.out],by rw[←bH.out,H.out.rest,←List.drop_drop,H.out.rest]⟩;have av:=bT.out;rw[Gw.out] at av;unfold lb;cases ih:dec (st.r.take (nC st.r)) with
    |none=>rw[ih] at av;cases av.2
    |some n=>rw[ih] at av;have az:n=z:=av.1;rw[az]
   go_wp2_with fail;with_reducible refine (wA _ (H.out.drewN _).any aA 1 z).mono ?_
   rintro e w' ⟨rfl,p3,v',fD⟩;have xt:=aq fD;obtain⟨d0,d1,d2,d3,d4⟩:=fD.cells;have g1:=fD.frozen 1;clear fD aQ aN aJ c3 bF f4 f1;go_wp2_with fail;go_end0;refine⟨rfl,m1,v',?_⟩;have kK:=xt.out.step JS rfl;rw[b0.out.2.1,b0.out.2.2] at kK;rw[b0.out.1];exact kK
def sT(R:Nat)(w:aeo):Nat:=match w.cell? (aj R 1) with|some (.int _ q)=>q.toNat|_=>0
variable{v:ada}
theorem yX(h:hJ w0 S R deep st k v w):sT R w=k:=by unfold sT;rw[h.cells.2.1];simp
def D3(d:Nat):Prop:=∀(w0:aeo) (S:Ua) (R deep:Nat) (st:du) (w:aeo),S.size≤300→deep+d=30→pO w0 S R deep st w→st.e=0→st.ops.length+st.r.length≤300→
 Calls Tryz.prog 318 #[ah R 0] w (Left w0 S R deep (fo d st))
def Ol(d:Nat):Prop:=∀(w0:aeo) (S:Ua) (R deep:Nat) (st:du) (w:aeo),S.size≤300→deep+d=30→pO w0 S R deep st w→st.e=0→st.ops.length+st.r.length≤300→
 Calls Tryz.prog 289 #[ah R 0] w (Left w0 S R deep (q2 (fo d) st))
def JU(d:Nat):Prop:=∀(w0:aeo) (S:Ua) (R deep:Nat) (st:du) (w:aeo),S.size≤300→deep+d=30→pO w0 S R deep st w→st.e=0→st.ops.length+st.r.length≤300→
 Calls Tryz.prog 255 #[ah R 0] w (Left w0 S R deep (uL (fo d) st))
theorem D3.use(hF:D3 d)(hS:S.size≤300)(hd:deep+d=30)(h:pO w0 S R deep st w)(he:st.e=0)(hc:st.ops.length+st.r.length≤300):
 Calls Tryz.prog 318 #[ah R 0] w (Left w0 S R deep (fo d st)):=hF w0 S R deep st w hS hd h he hc
theorem Ol.use(hF:Ol d)(hS:S.size≤300)(hd:deep+d=30)(h:pO w0 S R deep st w)(he:st.e=0)(hc:st.ops.length+st.r.length≤300):
 Calls Tryz.prog 289 #[ah R 0] w (Left w0 S R deep (q2 (fo d) st)):=hF w0 S R deep st w hS hd h he hc
theorem JU.use(hF:JU d)(hS:S.size≤300)(hd:deep+d=30)(h:pO w0 S R deep st w)(he:st.e=0)(hc:st.ops.length+st.r.length≤300):
 Calls Tryz.prog 255 #[ah R 0] w (Left w0 S R deep (uL (fo d) st)):=hF w0 S R deep st w hS hd h he hc
def D4(op:UInt8→Option Nat)(f:du→du)(goal:du)(st:du)(K:Nat):Prop:=goal=se op f K st∧st.r.length<K∧st.ops.length+st.r.length≤300
theorem Om{op:UInt8→Option Nat}{f:du→du}{K:Nat}(h:D4 op f goal st K)(hs:st.e=0→op (hd st.r)=none):goal=st:=by rw[h.1,afI _ hs]
theorem JV{op:UInt8→Option Nat}(aS:op 0=none){f:du→du}(hf:A0 f)(ih:Down f){K q:Nat}(h:D4 op f goal st K)(he:st.e=0)(aR:op (hd st.r)=some q):
  D4 op f goal (put (f ⟨st.r.drop 1,st.ops,0⟩) q 0) (K-1)∧(put (f ⟨st.r.drop 1,st.ops,0⟩) q 0).r.length<st.r.length∧st.r≠[]:=by
 have hne:=Wo aS aR;have hp:=List.length_pos_iff.2 hne;have av:=ih ⟨st.r.drop 1,st.ops,0⟩;have az:=hf ⟨st.r.drop 1,st.ops,0⟩;have aC:=Qp (f ⟨st.r.drop 1,st.ops,0⟩) q 0;simp only[fH] at av az;have bt:=h.2.1;have cr:=h.2.2;obtain⟨awv,rfl⟩:∃j,K=j+1:=⟨K-1,by omega⟩;refine⟨⟨?_,?_,?_⟩,?_,hne⟩
 ·rw[h.1,afJ _ he aR];rfl
 ·rw[uN];omega
 ·rw[uN];omega
 ·rw[uN];omega
theorem hJ.Ai(h:hJ w0 S R deep st k v w)(hne:st.r≠[])(he:st.e=0):hJ w0 S R deep ⟨st.r.drop 1,st.ops,0⟩ (k+1) v (w.setCell (aj R 1) (I ((k:Int)+1))):=by obtain⟨av,az⟩:=ZJ h.rest hne;have:=h.step (m:=k+1) (by omega) az;rw[he] at this;exact this
variable{r:au}{c:UInt8}
theorem oA(h:hd r=c):tq r=(c.toNat:Int):=by unfold tq;rw[h]
theorem xu(h:hd r≠c):(tq r==(c.toNat:Int))=false:=by rw[kS];unfold tq;intro e;apply h;apply UInt8.toNat_inj.1;omega
theorem ZN(d:Nat)(hF:D3 d):Ol d:=by
 intro w0 S R deep st w hS rJ h he hv;go_enter Tryz.func289,Tryz.ntmps289;go_wp2_with fail;with_reducible refine (hF.use hS rJ h he hv).mono ?_
 rintro e cc ⟨rfl,av⟩;have dn:af (D4 AX (fo d) (q2 (fo d) st) (fo d st) (st.r.length+1)):=⟨rfl,by have:=AZ d st;omega,by have:=sf d st;omega⟩;have bw:=aq av;clear h he hv av;go_wp2_with fail
 go_loopw [2] (fun _ wr=>∃(df:du) (K:Nat),af (pO w0 S R deep df wr)∧af (D4 AX (fo d) (q2 (fo d) st) df K)) (fun _ wr=>S.size-sT R wr)
 case atStart=>exact⟨_,_,bw,dn⟩
 case round=>
  obtain⟨df,K,tr,rT⟩:=hrel;clear bw dn;obtain⟨k,v,h⟩:=tr.out;have H:=aq h;obtain⟨aQ,aN,aJ,c3,bF⟩:=h.cells;have f1:=h.frozen 1;have S1:k≤300:=dx h.tp hS;clear h;by_cases he:df.e=0
  ·have D5:((df.e:Int)==0)=true:=(by rw[he];rfl);have bl:=aq he;clear he;obtain⟨c,hc⟩:=ar (tq df.r);have bC:=aq hc;by_cases Gx:hd df.r=120
   ·have t120:(c==120)=true:=(by rw[←hc,oA Gx];rfl);have aI:=Gx;have a':af (AX (hd df.r)=some 5):=(by show _=_;rw[aI];rfl);have av:=JV rfl (sf d) (AZ d) rT.out bl.out a'.out;have hN:=aq av;have iM:af (df.r≠[]):=av.2.2;have k7:af ((⟨df.r.drop 1,df.ops,0⟩:du).ops.length+(⟨df.r.drop 1,df.ops,0⟩:du).r.length≤300):=(by show df.ops.length+(df.r.drop 1).length≤300;have:=rT.out.2.2;rw[fH];omega);have uh:af (((fo d) ⟨df.r.drop 1,df.ops,0⟩).ops.length≤1000):=(by show _≤_;have g1:=(sf d) ⟨df.r.drop 1,df.ops,0⟩;have g2:=k7.out;omega);clear aI hc Gx;clear av;go_wp2_with fail;with_reducible refine (oQ _ H c bC).mono ?_
    rintro e w' ⟨dh,rfl,rfl⟩;have bd:=aq ((H.out.drewN dh).Ai iM.out bl.out).any;go_wp2_with fail;with_reducible refine (hF.use (st:=⟨df.r.drop 1,df.ops,0⟩) hS rJ bd.out rfl k7.out).mono ?_
    rintro e b9 ⟨rfl,az⟩;go_wp2_with fail;with_reducible refine (wA _ az uh.out 5 0).mono ?_
    rintro e dP ⟨rfl,aC⟩;go_wp2_with fail;have bH:af (S.size-sT R dP<S.size-sT R wr):=by show _<_;obtain⟨p0,v3,rE⟩:=aC;rw[yX rE,yX H.out];have g1:=rE.len;have g2:=H.out.len;have g3:=hN.out.2.1;have g4:=List.length_pos_iff.2 iM.out;rw[uN] at g1 g3;omega
    go_roundw
    case rel=>exact⟨_,_,aC,hN.out.1⟩
    case measure=>exact bH.out
   ·have t120:(c==120)=false:=(by rw[←hc];exact xu Gx);by_cases Gy:hd df.r=88
    ·have t88:(c==88)=true:=(by rw[←hc,oA Gy];rfl);have aI:=Gy;have a':af (AX (hd df.r)=some 5):=(by show _=_;rw[aI];rfl);have av:=JV rfl (sf d) (AZ d) rT.out bl.out a'.out;have hN:=aq av;have iM:af (df.r≠[]):=av.2.2;have k7:af ((⟨df.r.drop 1,df.ops,0⟩:du).ops.length+(⟨df.r.drop 1,df.ops,0⟩:du).r.length≤300):=(by show df.ops.length+(df.r.drop 1).length≤300;have:=rT.out.2.2;rw[fH];omega);have uh:af (((fo d) ⟨df.r.drop 1,df.ops,0⟩).ops.length≤1000):=(by show _≤_;have g1:=(sf d) ⟨df.r.drop 1,df.ops,0⟩;have g2:=k7.out;omega);clear aI hc Gy;clear av;go_wp2_with fail;with_reducible refine (oQ _ H c bC).mono ?_
     rintro e w' ⟨dh,rfl,rfl⟩;have bd:=aq ((H.out.drewN dh).Ai iM.out bl.out).any;go_wp2_with fail;with_reducible refine (hF.use (st:=⟨df.r.drop 1,df.ops,0⟩) hS rJ bd.out rfl k7.out).mono ?_
     rintro e b9 ⟨rfl,az⟩;go_wp2_with fail;with_reducible refine (wA _ az uh.out 5 0).mono ?_
     rintro e dP ⟨rfl,aC⟩;go_wp2_with fail;have bH:af (S.size-sT R dP<S.size-sT R wr):=by show _<_;obtain⟨p0,v3,rE⟩:=aC;rw[yX rE,yX H.out];have g1:=rE.len;have g2:=H.out.len;have g3:=hN.out.2.1;have g4:=List.length_pos_iff.2 iM.out;rw[uN] at g1 g3;omega
     go_roundw
     case rel=>exact⟨_,_,aC,hN.out.1⟩
     case measure=>exact bH.out
    ·have t88:(c==88)=false:=(by rw[←hc];exact xu Gy);by_cases Gz:hd df.r=47
     ·have t47:(c==47)=true:=(by rw[←hc,oA Gz];rfl);have aI:=Gz;have a':af (AX (hd df.r)=some 6):=(by show _=_;rw[aI];rfl);have av:=JV rfl (sf d) (AZ d) rT.out bl.out a'.out;have hN:=aq av;have iM:af (df.r≠[]):=av.2.2;have k7:af ((⟨df.r.drop 1,df.ops,0⟩:du).ops.length+(⟨df.r.drop 1,df.ops,0⟩:du).r.length≤300):=(by show df.ops.length+(df.r.drop 1).length≤300;have:=rT.out.2.2;rw[fH];omega);have uh:af (((fo d) ⟨df.r.drop 1,df.ops,0⟩).ops.length≤1000):=(by show _≤_;have g1:=(sf d) ⟨df.r.drop 1,df.ops,0⟩;have g2:=k7.out;omega);clear aI hc Gz;clear av;go_wp2_with fail;with_reducible refine (oQ _ H c bC).mono ?_
      rintro e w' ⟨dh,rfl,rfl⟩;have bd:=aq ((H.out.drewN dh).Ai iM.out bl.out).any;go_wp2_with fail;with_reducible refine (hF.use (st:=⟨df.r.drop 1,df.ops,0⟩) hS rJ bd.out rfl k7.out).mono ?_
      rintro e b9 ⟨rfl,az⟩;go_wp2_with fail;with_reducible refine (wA _ az uh.out 6 0).mono ?_
      rintro e dP ⟨rfl,aC⟩;go_wp2_with fail;have bH:af (S.size-sT R dP<S.size-sT R wr):=by show _<_;obtain⟨p0,v3,rE⟩:=aC;rw[yX rE,yX H.out];have g1:=rE.len;have g2:=H.out.len;have g3:=hN.out.2.1;have g4:=List.length_pos_iff.2 iM.out;rw[uN] at g1 g3;omega
      go_roundw
      case rel=>exact⟨_,_,aC,hN.out.1⟩
      case measure=>exact bH.out
     ·have t47:(c==47)=false:=(by rw[←hc];exact xu Gz);have cF:af (q2 (fo d) st=df):=Om rT.out (fun _=>by unfold AX;simp[Gx,Gy,Gz]);clear hc Gx Gy Gz;go_wp2_with fail;with_reducible refine (oQ _ H c bC).mono ?_
      rintro e w' ⟨dh,rfl,rfl⟩;go_wp2_with fail;refine bodyPost_ret (results_none rfl _ _ _) rfl ?_;exact⟨rfl,by rw[cF.out];exact (H.out.drewN dh).any⟩
  ·have D5:((df.e:Int)==0)=false:=(by simp;omega);have cF:af (q2 (fo d) st=df):=Om rT.out (fun h=>absurd h he);clear he;go_wp2_with fail;go_end0;exact⟨rfl,by rw[cF.out];exact H.out.any⟩
theorem ZO(d:Nat)(hF:Ol d):JU d:=by
 intro w0 S R deep st w hS rJ h he hv;go_enter Tryz.func255,Tryz.ntmps255;go_wp2_with fail;with_reducible refine (hF.use hS rJ h he hv).mono ?_
 rintro e cc ⟨rfl,av⟩;have dn:af (D4 CK (q2 (fo d)) (uL (fo d) st) (q2 (fo d) st) (st.r.length+1)):=⟨rfl,by have:=HW (AZ d) st;omega,by have:=CL (sf d) st;omega⟩;have bw:=aq av;clear h he hv av;go_wp2_with fail
 go_loopw [2] (fun _ wr=>∃(df:du) (K:Nat),af (pO w0 S R deep df wr)∧af (D4 CK (q2 (fo d)) (uL (fo d) st) df K)) (fun _ wr=>S.size-sT R wr)
 case atStart=>exact⟨_,_,bw,dn⟩
 case round=>
  obtain⟨df,K,tr,rT⟩:=hrel;clear bw dn;obtain⟨k,v,h⟩:=tr.out;have H:=aq h;obtain⟨aQ,aN,aJ,c3,bF⟩:=h.cells;have f1:=h.frozen 1;have S1:k≤300:=dx h.tp hS;clear h;by_cases he:df.e=0
  ·have D5:((df.e:Int)==0)=true:=(by rw[he];rfl);have bl:=aq he;clear he;obtain⟨c,hc⟩:=ar (tq df.r);have bC:=aq hc;by_cases GA:hd df.r=43
   ·have t43:(c==43)=true:=(by rw[←hc,oA GA];rfl);have aI:=GA;have a':af (CK (hd df.r)=some 3):=(by show _=_;rw[aI];rfl);have av:=JV rfl (CL (sf d)) (HW (AZ d)) rT.out bl.out a'.out;have hN:=aq av;have iM:af (df.r≠[]):=av.2.2;have k7:af ((⟨df.r.drop 1,df.ops,0⟩:du).ops.length+(⟨df.r.drop 1,df.ops,0⟩:du).r.length≤300):=(by show df.ops.length+(df.r.drop 1).length≤300;have:=rT.out.2.2;rw[fH];omega);have uh:af (((q2 (fo d)) ⟨df.r.drop 1,df.ops,0⟩).ops.length≤1000):=(by show _≤_;have g1:=(CL (sf d)) ⟨df.r.drop 1,df.ops,0⟩;have g2:=k7.out;omega);clear aI hc GA;clear av;go_wp2_with fail;with_reducible refine (oQ _ H c bC).mono ?_
    rintro e w' ⟨dh,rfl,rfl⟩;have bd:=aq ((H.out.drewN dh).Ai iM.out bl.out).any;go_wp2_with fail;with_reducible refine (hF.use (st:=⟨df.r.drop 1,df.ops,0⟩) hS rJ bd.out rfl k7.out).mono ?_
    rintro e b9 ⟨rfl,az⟩;go_wp2_with fail;with_reducible refine (wA _ az uh.out 3 0).mono ?_
    rintro e dP ⟨rfl,aC⟩;go_wp2_with fail;have bH:af (S.size-sT R dP<S.size-sT R wr):=by show _<_;obtain⟨p0,v3,rE⟩:=aC;rw[yX rE,yX H.out];have g1:=rE.len;have g2:=H.out.len;have g3:=hN.out.2.1;have g4:=List.length_pos_iff.2 iM.out;rw[uN] at g1 g3;omega
    go_roundw
    case rel=>exact⟨_,_,aC,hN.out.1⟩
    case measure=>exact bH.out
   ·have t43:(c==43)=false:=(by rw[←hc];exact xu GA);by_cases GB:hd df.r=45
    ·have t45:(c==45)=true:=(by rw[←hc,oA GB];rfl);have aI:=GB;have a':af (CK (hd df.r)=some 4):=(by show _=_;rw[aI];rfl);have av:=JV rfl (CL (sf d)) (HW (AZ d)) rT.out bl.out a'.out;have hN:=aq av;have iM:af (df.r≠[]):=av.2.2;have k7:af ((⟨df.r.drop 1,df.ops,0⟩:du).ops.length+(⟨df.r.drop 1,df.ops,0⟩:du).r.length≤300):=(by show df.ops.length+(df.r.drop 1).length≤300;have:=rT.out.2.2;rw[fH];omega);have uh:af (((q2 (fo d)) ⟨df.r.drop 1,df.ops,0⟩).ops.length≤1000):=(by show _≤_;have g1:=(CL (sf d)) ⟨df.r.drop 1,df.ops,0⟩;have g2:=k7.out;omega);clear aI hc GB;clear av;go_wp2_with fail;with_reducible refine (oQ _ H c bC).mono ?_
     rintro e w' ⟨dh,rfl,rfl⟩;have bd:=aq ((H.out.drewN dh).Ai iM.out bl.out).any;go_wp2_with fail;with_reducible refine (hF.use (st:=⟨df.r.drop 1,df.ops,0⟩) hS rJ bd.out rfl k7.out).mono ?_
     rintro e b9 ⟨rfl,az⟩;go_wp2_with fail;with_reducible refine (wA _ az uh.out 4 0).mono ?_
     rintro e dP ⟨rfl,aC⟩;go_wp2_with fail;have bH:af (S.size-sT R dP<S.size-sT R wr):=by show _<_;obtain⟨p0,v3,rE⟩:=aC;rw[yX rE,yX H.out];have g1:=rE.len;have g2:=H.out.len;have g3:=hN.out.2.1;have g4:=List.length_pos_iff.2 iM.out;rw[uN] at g1 g3;omega
     go_roundw
     case rel=>exact⟨_,_,aC,hN.out.1⟩
     case measure=>exact bH.out
    ·have t45:(c==45)=false:=(by rw[←hc];exact xu GB);have cF:af (uL (fo d) st=df):=Om rT.out (fun _=>by unfold CK;simp[GA,GB]);clear hc GA GB;go_wp2_with fail;with_reducible refine (oQ _ H c bC).mono ?_
     rintro e w' ⟨dh,rfl,rfl⟩;go_wp2_with fail;refine bodyPost_ret (results_none rfl _ _ _) rfl ?_;exact⟨rfl,by rw[cF.out];exact (H.out.drewN dh).any⟩
  ·have D5:((df.e:Int)==0)=false:=(by simp;omega);have cF:af (uL (fo d) st=df):=Om rT.out (fun h=>absurd h he);clear he;go_wp2_with fail;go_end0;exact⟨rfl,by rw[cF.out];exact H.out.any⟩
def On(d:Nat):Prop:=∀(w0:aeo) (S:Ua) (R deep:Nat) (st:du) (w:aeo) (c:UInt8) (C:Int),S.size≤300→deep+d=30→pO w0 S R deep st w→st.e=0→st.ops.length+st.r.length≤300→wv c=true→af (C=(c.toNat:Int))→
 Calls Tryz.prog 328 #[ah R 0,.int .u8 C] w (Left w0 S R deep (q3 (fo d) c st))
theorem On.use(hF:On d){C:Int}(hS:S.size≤300)(hd:deep+d=30)(h:pO w0 S R deep st w)(he:st.e=0)(hc:st.ops.length+st.r.length≤300)(hs:wv c=true)(mZ:af (C=(c.toNat:Int))):
 Calls Tryz.prog 328 #[ah R 0,.int .u8 C] w (Left w0 S R deep (q3 (fo d) c st)):=hF w0 S R deep st w c C hS hd h he hc hs mZ
theorem ajZ(d:Nat)(hF:D3 d)(aj0:JU d):On d:=by
 intro w0 S R deep st w c C hS rJ h he hv hs mZ;rcases Qo hs with rfl|rfl|rfl
 ·obtain rfl:C=43:=mZ.out;have b0:af (q3 (fo d) 43 st=fo d st):=(by show _=_;unfold q3;rw[aW (by decide),aW (by decide)]);clear hs mZ;go_enter Tryz.func328,Tryz.ntmps328;go_wp2_with fail;with_reducible refine (hF.use hS rJ h he hv).mono ?_
  rintro e cc ⟨rfl,av⟩;go_wp2_with fail;refine bodyPost_ret (results_none rfl _ _ _) rfl ?_;exact⟨rfl,by rw[b0.out];exact av⟩
 ·obtain rfl:C=45:=mZ.out;have b0:af (q3 (fo d) 45 st=put (fo d st) 7 0):=(by show _=_;unfold q3;rw[aW (by decide),bb rfl]);have bT:af ((fo d st).ops.length≤1000):=(by show _≤_;have:=sf d st;omega);clear hs mZ;go_enter Tryz.func328,Tryz.ntmps328;go_wp2_with fail;with_reducible refine (hF.use hS rJ h he hv).mono ?_
  rintro e cc ⟨rfl,av⟩;go_wp2_with fail;with_reducible refine (wA _ av bT.out 7 0).mono ?_
  rintro e b9 ⟨rfl,az⟩;go_wp2_with fail;refine bodyPost_ret (results_none rfl _ _ _) rfl ?_;exact⟨rfl,by rw[b0.out];exact az⟩
 ·obtain rfl:C=40:=mZ.out;obtain⟨s1,qL⟩:=ar (uL (fo d) st);have b0:af (q3 (fo d) 40 st=tl s1):=(by show _=_;unfold q3;rw[bb rfl,qL]);have ke:=aq qL;clear hs mZ qL;go_enter Tryz.func328,Tryz.ntmps328;go_wp2_with fail;with_reducible refine (aj0.use hS rJ h he hv).mono ?_
  rintro e cc ⟨rfl,av⟩;rw[ke.out] at av;obtain⟨k,v,av⟩:=av;have H1:=aq av;obtain⟨aQ,aN,aJ,c3,bF⟩:=av.cells;have f1:=av.frozen 1;have f4:=av.frozen 4;have S1:k≤300:=dx av.tp hS;clear h av he hv;by_cases cz:s1.e=0
  ·have D5:((s1.e:Int)==0)=true:=(by rw[cz];rfl);have aV:=aq cz;clear cz;obtain⟨c,hc⟩:=ar (tq s1.r);have bC:=aq hc;by_cases BY:hd s1.r=41
   ·have t41:(c==41)=true:=(by rw[←hc,oA BY];rfl);have dr:af (tl s1=⟨s1.r.drop 1,s1.ops,0⟩∧s1.r≠[]):=⟨by unfold tl;rw[bb aV.out,bb BY],by intro e;rw[e] at BY;exact absurd BY (by decide)⟩;clear hc BY;go_wp2_with fail;with_reducible refine (oQ _ H1 c bC).mono ?_
    rintro e w' ⟨dh,rfl,rfl⟩;have bd:=aq ((H1.out.drewN dh).Ai dr.out.2 aV.out).any;go_wp2_with fail;go_end0;exact⟨rfl,by rw[b0.out,dr.out.1];exact bd.out⟩
   ·have t41:(c==41)=false:=(by rw[←hc];exact xu BY);have dr:af (tl s1=⟨s1.r,s1.ops,3⟩):=(by show _=_;unfold tl;rw[bb aV.out,aW BY]);clear hc BY;go_wp2_with fail;with_reducible refine (oQ _ H1 c bC).mono ?_
    rintro e w' ⟨dh,rfl,rfl⟩;go_wp2_with fail;refine bodyPost_ret (results_none rfl _ _ _) rfl ?_;exact⟨rfl,by rw[b0.out,dr.out];exact ((H1.out.drewN dh).err 3).any⟩
  ·have D5:((s1.e:Int)==0)=false:=(by simp;omega);have dr:af (tl s1=s1):=(by show _=_;unfold tl;rw[aW cz]);clear cz;go_wp2_with fail;refine bodyPost_ret (results_none rfl _ _ _) rfl ?_;exact⟨rfl,by rw[b0.out,dr.out];exact H1.out.any⟩
theorem aj1(h:wv (hd st.r)=false):fo d st=qf st:=by cases d<;>(rw[fo,aW (by rw[h];decide)])
theorem ZP(d:Nat)(hS:S.size≤300)(h:pO w0 S R deep st w)(he:st.e=0)(hv:st.ops.length+st.r.length≤300)(hs:wv (hd st.r)=false):
  Calls Tryz.prog 318 #[ah R 0] w (Left w0 S R deep (fo d st)):=by
 rw[aj1 hs];obtain⟨k,v,h⟩:=h;have H:=aq h;obtain⟨aQ,aN,aJ,c3,bF⟩:=h.cells;have f4:=h.frozen 4;have aA:st.ops.length≤1000:=by omega
 obtain⟨c,hc⟩:=ar (tq st.r);have bC:=aq hc;have hne:hd st.r≠43∧hd st.r≠45∧hd st.r≠40:=by refine⟨?_,?_,?_⟩<;>(intro e;rw[e] at hs;exact absurd hs (by decide))
 have t43:(c==43)=false:=by rw[←hc];exact xu hne.1
 have t45:(c==45)=false:=by rw[←hc];exact xu hne.2.1
 have t40:(c==40)=false:=by rw[←hc];exact xu hne.2.2
 clear h hv hs hne;by_cases pj:hd st.r=36
 ·have t36:(c==36)=true:=(by rw[←hc,oA pj];rfl);have b0:af (qf st=kP st):=(by show _=_;unfold qf;rw[bb pj]);have aj2:=aq pj;clear hc pj;go_enter yU,yV;go_wp2_with fail;with_reducible refine (oQ _ H c bC).mono ?_
  rintro e w' ⟨dh,rfl,rfl⟩;go_wp2_with fail;with_reducible refine (ajQ hS _ (H.out.drewN dh).any he aA aj2.out).mono ?_
  rintro e b9 ⟨rfl,az⟩;go_wp2_with fail;go_end0;exact⟨rfl,by rw[b0.out];exact az⟩
 ·have t36:(c==36)=false:=(by rw[←hc];exact xu pj);by_cases kQ:hd st.r=46
  ·have t46:(c==46)=true:=(by rw[←hc,oA kQ];rfl);have b0:af (qf st=lb st):=(by show _=_;unfold qf;rw[aW pj,bb (by rw[kQ];decide)]);clear hc pj kQ;go_enter yU,yV;go_wp2_with fail;with_reducible refine (oQ _ H c bC).mono ?_
   rintro e w' ⟨dh,rfl,rfl⟩;go_wp2_with fail;with_reducible refine (JR hS _ (H.out.drewN dh).any he aA).mono ?_
   rintro e b9 ⟨rfl,az⟩;go_wp2_with fail;go_end0;exact⟨rfl,by rw[b0.out];exact az⟩
  ·have t46:(c==46)=false:=(by rw[←hc];exact xu kQ);obtain⟨b,ax⟩:=ar (fi (hd st.r))
   have aI:af ((decide (48≤c)&&decide (c≤57))=b):=by
    show _=_;rw[←ax,←hc];unfold fi tq
    congr 1<;>(rw[decide_eq_decide];omega)
   cases b with
   |true=>
    have b0:af (qf st=lb st):=(by show _=_;unfold qf;rw[aW pj,bb (by rw[ax];simp)]);clear hc pj kQ ax;go_enter yU,yV;go_wp2_with fail;with_reducible refine (oQ _ H c bC).mono ?_
    rintro e w' ⟨dh,rfl,rfl⟩;go_wp2_with fail;with_reducible refine (Gu _ true aI _).mono ?_
    rintro e w' ⟨rfl,rfl⟩;go_wp2_with fail;with_reducible refine (JR hS _ (H.out.drewN dh).any he aA).mono ?_
    rintro e b9 ⟨rfl,az⟩;go_wp2_with fail;go_end0;exact⟨rfl,by rw[b0.out];exact az⟩
   |false=>
    have b0:af (qf st=⟨st.r,st.ops,3⟩):=(by show _=_;unfold qf;rw[aW pj,aW (by rw[ax];simpa using kQ)]);clear hc pj kQ ax;go_enter yU,yV;go_wp2_with fail;with_reducible refine (oQ _ H c bC).mono ?_
    rintro e w' ⟨dh,rfl,rfl⟩;go_wp2_with fail;with_reducible refine (Gu _ false aI _).mono ?_
    rintro e w' ⟨rfl,rfl⟩;go_wp2_with fail;go_end0;exact⟨rfl,by rw[b0.out];exact ((H.out.drewN dh).err 3).any⟩
theorem aj3:D3 0:=by
 intro w0 S R deep st w hS rJ h he hv;by_cases hs:wv (hd st.r)=true
 ·obtain⟨k,v,h⟩:=h;have H:=aq h;obtain⟨aQ,aN,aJ,c3,bF⟩:=h.cells;have f4:=h.frozen 4;obtain⟨c,hc⟩:=ar (tq st.r);have bC:=aq hc;obtain rfl:deep=30:=(by omega);have b0:af (fo 0 st=⟨st.r,st.ops,6⟩):=(by show _=_;rw[fo,bb hs]);have aV:af (Left w0 S R 30 (fo 0 st)=Left w0 S R 30 ⟨st.r,st.ops,6⟩):=(by show _=_;rw[b0.out]);clear h hv he;rcases Qo hs with aS|aS|aS
  ·skip
   have t43:(c==43)=true:=(by rw[←hc,oA aS];rfl);clear hc hs aS;go_enter yU,yV;go_wp2_with fail;with_reducible refine (oQ _ H c bC).mono ?_
   rintro e w' ⟨dh,rfl,rfl⟩;go_wp2_with fail;refine bodyPost_ret (results_none rfl _ _ _) rfl ?_;exact⟨rfl,by rw[b0.out];exact ((H.out.drewN dh).err 6).any⟩
  ·skip
   have t43:(c==43)=false:=(by rw[←hc,oA aS];rfl);have t45:(c==45)=true:=(by rw[←hc,oA aS];rfl);clear hc hs aS;go_enter yU,yV;go_wp2_with fail;with_reducible refine (oQ _ H c bC).mono ?_
   rintro e w' ⟨dh,rfl,rfl⟩;go_wp2_with fail;refine bodyPost_ret (results_none rfl _ _ _) rfl ?_;exact⟨rfl,by rw[b0.out];exact ((H.out.drewN dh).err 6).any⟩
  ·skip
   have t43:(c==43)=false:=(by rw[←hc,oA aS];rfl);have t45:(c==45)=false:=(by rw[←hc,oA aS];rfl);have t40:(c==40)=true:=(by rw[←hc,oA aS];rfl);clear hc hs aS;go_enter yU,yV;go_wp2_with fail;with_reducible refine (oQ _ H c bC).mono ?_
   rintro e w' ⟨dh,rfl,rfl⟩;go_wp2_with fail;refine bodyPost_ret (results_none rfl _ _ _) rfl ?_;exact⟨rfl,by rw[b0.out];exact ((H.out.drewN dh).err 6).any⟩
 ·exact ZP 0 hS h he hv (by simpa using hs)
theorem hJ.S2(h:hJ w0 S R deep st k v w):hJ w0 S R (deep+1) st k v (w.setCell (aj R 2) (I ((deep:Int)+1))):=h.Md (deep+1)
theorem aj4(d:Nat)(D6:On d):D3 (d+1):=by
 intro w0 S R deep st w hS rJ h he hv;by_cases hs:wv (hd st.r)=true
 ·obtain⟨k,v,h⟩:=h;have H:=aq h;obtain⟨aQ,aN,aJ,c3,bF⟩:=h.cells;have f1:=h.frozen 1;have f2:=h.frozen 2;have S1:k≤300:=dx h.tp hS;obtain⟨c,hc⟩:=ar (tq st.r);have bC:=aq hc;have aww:((deep:Int)==30)=false:=(by simp;omega);have b0:af (fo (d+1) st=q3 (fo d) (hd st.r) ⟨st.r.drop 1,st.ops,0⟩):=(by show _=_;rw[fo,bb hs,he]);have iM:=aq (Wq hs);have bl:=aq he;have k7:af ((⟨st.r.drop 1,st.ops,0⟩:du).ops.length+(⟨st.r.drop 1,st.ops,0⟩:du).r.length≤300):=(by show st.ops.length+(st.r.drop 1).length≤300;rw[fH];omega);have S3:deep+1+d=30:=(by omega);have S4:=aq hs;have ui:af (c=((hd st.r).toNat:Int)):=(by show _=_;rw[←hc];rfl);clear h hv he;rcases Qo hs with aS|aS|aS
  ·skip
   have t43:(c==43)=true:=(by rw[←hc,oA aS];rfl);clear hc hs aS;go_enter yU,yV;go_wp2_with fail;with_reducible refine (oQ _ H c bC).mono ?_
   rintro e w' ⟨dh,rfl,rfl⟩;have bd:=aq ((H.out.drewN dh).Ai iM.out bl.out).S2.any;go_wp2_with fail;with_reducible refine (D6.use hS S3 bd.out rfl k7.out S4.out ui).mono ?_
   rintro e b9 ⟨rfl,ba,v2,az⟩;have dp:=aq az;obtain⟨d0,d1,d2,d3,d4⟩:=az.cells;have g2:=az.frozen 2;have bw:=aq (az.Md deep).any;clear az aQ aN aJ c3 bF f1 f2;go_wp2_with fail;go_end0;exact⟨rfl,by rw[b0.out];exact bw.out⟩
  ·skip
   have t43:(c==43)=false:=(by rw[←hc,oA aS];rfl);have t45:(c==45)=true:=(by rw[←hc,oA aS];rfl);clear hc hs aS;go_enter yU,yV;go_wp2_with fail;with_reducible refine (oQ _ H c bC).mono ?_
   rintro e w' ⟨dh,rfl,rfl⟩;have bd:=aq ((H.out.drewN dh).Ai iM.out bl.out).S2.any;go_wp2_with fail;with_reducible refine (D6.use hS S3 bd.out rfl k7.out S4.out ui).mono ?_
   rintro e b9 ⟨rfl,ba,v2,az⟩;have dp:=aq az;obtain⟨d0,d1,d2,d3,d4⟩:=az.cells;have g2:=az.frozen 2;have bw:=aq (az.Md deep).any;clear az aQ aN aJ c3 bF f1 f2;go_wp2_with fail;go_end0;exact⟨rfl,by rw[b0.out];exact bw.out⟩
  ·skip
   have t43:(c==43)=false:=(by rw[←hc,oA aS];rfl);have t45:(c==45)=false:=(by rw[←hc,oA aS];rfl);have t40:(c==40)=true:=(by rw[←hc,oA aS];rfl);clear hc hs aS;go_enter yU,yV;go_wp2_with fail;with_reducible refine (oQ _ H c bC).mono ?_
   rintro e w' ⟨dh,rfl,rfl⟩;have bd:=aq ((H.out.drewN dh).Ai iM.out bl.out).S2.any;go_wp2_with fail;with_reducible refine (D6.use hS S3 bd.out rfl k7.out S4.out ui).mono ?_
   rintro e b9 ⟨rfl,ba,v2,az⟩;have dp:=aq az;obtain⟨d0,d1,d2,d3,d4⟩:=az.cells;have g2:=az.frozen 2;have bw:=aq (az.Md deep).any;clear az aQ aN aJ c3 bF f1 f2;go_wp2_with fail;go_end0;exact⟨rfl,by rw[b0.out];exact bw.out⟩
 ·exact ZP (d+1) hS h he hv (by simpa using hs)
theorem S5:∀d,D3 d
 |0=>aj3
 |d+1=>aj4 d (ajZ d (S5 d) (ZO d (ZN d (S5 d))))
theorem aj5:JU 30:=ZO 30 (ZN 30 (S5 30))
def aj6(l:List (Int×Int))(a e:Nat)(w:aeo)(h3:Ending)(w':aeo):Prop:=
 ∃v,h3=ab (.tuple #[v,I (a:Int),I (e:Int)])∧w'.ownsRow w.heap.size 413 2 v l.length (q7 l)∧ao w w w'
theorem S6(w:aeo)(B:Nat):w.ownsRow B 413 2 (J 0) ([]:List (Int×Int)).length (q7 []):=⟨rfl,.inl ⟨rfl,rfl⟩⟩
theorem ZQ(S:Ua)(hm:S.size≤maxLen)(w:aeo)(l:List (Int×Int))(a e:Nat)(hp:af (x' S.data.toList=(l,a,e))):
  Calls Tryz.prog 222 #[aa S] w (aj6 l a e w):=by
 unfold maxLen at hm;have hlen:S.data.toList.length=S.size:=cb S;by_cases awx:300<(S.size:Int)
 ·have hx:=hp.out;unfold x' at hx;rw[bb (by omega)] at hx;simp only[Prod.mk.injEq] at hx;obtain⟨rfl,rfl,rfl⟩:=hx;clear hlen;go_enter Tryz.func222,Tryz.ntmps222;go_wp2_with fail;go_ret3;exact⟨_,rfl,S6 w _,Below.refl _ _⟩
 ·have hS:S.size≤300:=(by omega);obtain⟨s1,qL⟩:=ar (AY S.data.toList);have cR:af ((if uM s1=0 then (s1.ops,0,0) else ([],S.size-s1.r.length,uM s1))=(l,a,e)):=(by show _=_;have hx:=hp.out;unfold x' at hx;rw[aW (by omega),qL,hlen] at hx;exact hx);have ke:af (uL (fo 30) ⟨S.data.toList,[],0⟩=s1):=qL
  have aj7:af (pO w S w.heap.size 0 ⟨S.data.toList,[],0⟩ (w.alloc (Mb S 0 0 (J 0) 0))):=
   ⟨0,J 0,dO _,rfl,fJ w _,⟨rfl,.inl ⟨rfl,rfl⟩⟩,(Below.refl _ _).alloc (bx _) _,bx _⟩
  have bC:af ((⟨S.data.toList,[],0⟩:du).ops.length+(⟨S.data.toList,[],0⟩:du).r.length≤300):=(by show 0+S.data.toList.length≤300;omega);clear qL hlen hp;go_enter Tryz.func222,Tryz.ntmps222;go_wp2_with fail;with_reducible refine (aj5.use (st:=⟨S.data.toList,[],0⟩) hS rfl aj7.out rfl bC.out).mono ?_
  rw[ke.out];rintro h3 cc ⟨rfl,k,v,av⟩;have H1:=aq av;have zL:=av.tp;have hN:=aq av.len;obtain⟨aQ,aN,aJ,c3,bF⟩:=av.cells;have f4:=av.frozen 4;clear av;by_cases cz:s1.e=0
  ·have D5:((s1.e:Int)==0)=true:=(by rw[cz];rfl);by_cases hr:k<S.size
   ·have bl:af (l=[]∧a=k∧e=3):=(by have hx:=cR.out;have S7:s1.r≠[]:=(by intro e;have:=hN.out;rw[e] at this;simp at this;omega);have aC:uM s1=3:=(by unfold uM;rw[bb cz,aW S7]);rw[aC,aW (by decide)] at hx;simp only[Prod.mk.injEq] at hx;exact⟨hx.1.symm,by have:=hN.out;omega,hx.2.2.symm⟩);obtain⟨rfl,rfl,rfl⟩:=bl.out;clear cz cR ke;have aI:af (ao w w (cc.setCell (aj w.heap.size 4) (I 3))):=H1.out.aX.setCell (bx _) _;go_wp2_with fail
    go_quiet (fail)
    go_wp2_with fail;go_ret3;exact⟨_,rfl,S6 _ _,below_drewN aI.out _⟩
   ·have bl:af (l=s1.ops∧a=0∧e=0):=(by have hx:=cR.out;have S7:s1.r=[]:=(by have:=hN.out;exact mT (by omega));have aC:uM s1=0:=(by unfold uM;rw[bb cz,bb S7]);rw[aC,bb rfl] at hx;simp only[Prod.mk.injEq] at hx;exact⟨hx.1.symm,hx.2.1.symm,hx.2.2.symm⟩);obtain⟨rfl,rfl,rfl⟩:=bl.out;clear cz cR ke;go_wp2_with fail;go_ret3;exact⟨v,rfl,H1.out.own,H1.out.aX⟩
  ·have D5:((s1.e:Int)==0)=false:=(by simp;omega);have bl:af (l=[]∧a=k∧e=s1.e):=(by have hx:=cR.out;have aC:uM s1=s1.e:=(by unfold uM;rw[aW cz]);rw[aC,aW cz] at hx;simp only[Prod.mk.injEq] at hx;exact⟨hx.1.symm,by have:=hN.out;omega,hx.2.2.symm⟩);obtain⟨rfl,rfl,rfl⟩:=bl.out;clear cz cR ke;go_wp2_with fail
   go_quiet (fail)
   go_wp2_with fail;go_ret3;exact⟨_,rfl,S6 _ _,below_drewN H1.out.aX _⟩
end pN
