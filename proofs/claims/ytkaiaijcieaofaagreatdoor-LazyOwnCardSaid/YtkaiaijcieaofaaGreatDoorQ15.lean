/- Lemmas. -/
import Derived.Test.YtkaiaijcieaofaaGreatDoorQ8
set_option linter.all false
set_option maxRecDepth 100000
set_option maxHeartbeats 3200000
namespace Go.Proofs.YtkaiaijcieaofaaGreatDoor
abbrev T5:=@List.getElem_drop
abbrev T6:=@Nat.sub_self
abbrev zl:=@List.getD_eq_getElem?_getD
abbrev o5:=@results_none
abbrev zm:=@Proofs.Tryz.func233
abbrev zn:=@Proofs.Tryz.ntmps233
namespace hL
open Go.RowKit ga gI ph Mem
theorem HE(X:Int)(b:Bool)(ay:af ((decide (48≤X)&&decide (X≤57))=b))(w:aeo):
  Calls Tryz.prog 242 #[.int .u8 X] w fun e w'=>e=ab (U b)∧w=w':=by
 by_cases au:48≤X
 ·by_cases ax:X≤57
  ·obtain rfl:true=b:=(by rw[←ay.out];simp[au,ax]);go_enter Tryz.func242,Tryz.ntmps242;go_wp2_with fail;go_ret;exact⟨rfl,rfl⟩
  ·obtain rfl:false=b:=(by rw[←ay.out];simp[ax]);go_enter Tryz.func242,Tryz.ntmps242;go_wp2_with fail;go_ret;exact⟨rfl,rfl⟩
 ·obtain rfl:false=b:=(by rw[←ay.out];simp[au]);go_enter Tryz.func242,Tryz.ntmps242;go_wp2_with fail;go_ret;exact⟨rfl,rfl⟩
variable{S:Ua}{i k:Nat}
theorem HF(h:i<S.size):∃X:Nat,S[i].toNat=X∧X<256:=⟨_,rfl,UInt8.toNat_lt _⟩
theorem T7{j:Nat}(h:k+j<S.size):∃b6:j<(S.data.toList.drop k).length,(S.data.toList.drop k)[j]=S[k+j]:=by have az:S.data.toList.length=S.size:=ch S;exact⟨by rw[e8,az];omega,by rw[T5];rfl⟩
theorem aaF(aw:k≤i)(h:i<S.size)(b6:i-k≤bK (S.data.toList.drop k))(hd:fi S[i]=true):i+1-k≤bK (S.data.toList.drop k):=by obtain⟨j,rfl⟩:∃j,i=k+j:=⟨i-k,by omega⟩;obtain⟨au,ax⟩:=T7 h;have:=No (k:=j) (by omega) au (by rw[ax];exact hd);omega
theorem aaG(aw:k≤i)(h:i<S.size)(b6:i-k≤bK (S.data.toList.drop k))(hd:fi S[i]=false):k+bK (S.data.toList.drop k)=i:=by obtain⟨j,rfl⟩:∃j,i=k+j:=⟨i-k,by omega⟩;obtain⟨au,ax⟩:=T7 h;have:=Jq (k:=j) (by omega) au (by rw[ax];exact hd);omega
theorem aaH(aw:k≤i)(h:¬i<S.size)(hi:i≤S.size)(b6:i-k≤bK (S.data.toList.drop k)):k+bK (S.data.toList.drop k)=i:=by have au:=r1 (S.data.toList.drop k);rw[e8,ch] at au;omega
theorem T8{X:Nat}(h:i<S.size)(b2:S[i].toNat=X)(b:Bool)(ay:fi S[i]=b):(decide (48≤(X:Int))&&decide ((X:Int)≤57))=b:=by
 rw[←ay,←b2];unfold fi
 congr 1<;>(rw[decide_eq_decide];omega)
theorem aaI{R:Nat}(hS:S.size≤300)(w:aeo)(aF:ak w R 0 (aa S))(k:Nat)(aw:k≤S.size)(a:Int)(ha:af (a=(k:Int)))(m:Nat)(hm:af (k+bK (S.data.toList.drop k)=m)):
  Calls Tryz.prog 246 #[ah R 0,I a] w fun e w'=>e=ab (I (m:Int))∧w=w':=by
 obtain rfl:=ha.out;go_enter Tryz.func246,Tryz.ntmps246;go_wp2_with fail
 go_loop [1] (fun a=>∃i:Nat,k≤i∧i≤S.size∧a=I (i:Int)∧af (i-k≤bK (S.data.toList.drop k))) (fun a=>S.size -(intOf a).toNat)
 case atStart=>exact⟨k,by omega,by omega,rfl,by show k-k≤_;omega⟩
 case round=>
  obtain⟨i,pN,Lb,rfl,p4⟩:=hrel;by_cases bm:i<S.size
  ·obtain⟨X,b2,sE⟩:=HF bm;obtain⟨b,ay⟩:=aq (fi S[i]);have aH:af ((decide (48≤(X:Int))&&decide ((X:Int)≤57))=b):=T8 bm b2 b ay;have T9:((S[i].toNat:Nat):Int)=(X:Int):=(by rw[b2]);have bd:af ((b=true→i+1-k≤bK (S.data.toList.drop k))∧(b=false→k+bK (S.data.toList.drop k)=i)):=⟨fun h=>aaF pN bm p4.out (ay.trans h),fun h=>aaG pN bm p4.out (ay.trans h)⟩;clear b2 ay;cases b with
   |true=>
    go_wp2_with fail;with_reducible refine (HE _ true aH _).mono ?_
    rintro e w' ⟨rfl,rfl⟩;go_wp2_with fail;go_round
    case rel=>exact⟨i+1,by omega,by omega,by go_num,bd.out.1 trivial⟩
    case measure=>simp[intOf];omega
   |false=>
    have bN:af (((i:Nat):Int)=(m:Int)):=(by show _=_;rw[←hm.out,bd.out.2 rfl]);go_wp2_with fail;with_reducible refine (HE _ false aH _).mono ?_
    rintro e w' ⟨rfl,rfl⟩;go_wp2_with fail;go_ret;exact⟨sw bN.out,rfl⟩
  ·have bN:af (((i:Nat):Int)=(m:Int)):=(by show _=_;rw[←hm.out,aaH pN bm Lb p4.out]);go_wp2_with fail;go_ret;exact⟨sw bN.out,rfl⟩
theorem ale(l:ar)(c:UInt8):re (l++[c])=min (10 *re l+(c.toNat-48)) 100:=by simp[re]
theorem alf{m X:Nat}(aw:k≤i)(h:i<S.size)(b2:S[i].toNat=X)(hm:re ((S.data.toList.drop k).take (i-k))=m):re ((S.data.toList.drop k).take (i+1-k))=min (10 *m+(X-48)) 100:=by obtain⟨j,rfl⟩:∃j,i=k+j:=⟨i-k,by omega⟩;obtain⟨au,ax⟩:=T7 h;rw[show k+j-k=j by omega] at hm;rw[show k+j+1-k=j+1 by omega,AB au,ale,hm,ax,b2]
theorem aaJ{r:ar}(h:S.data.toList.drop k=r)(hne:r≠[]):k<S.size∧S.data.toList.drop (k+1)=r.drop 1:=by have au:=fS List.length h;rw[e8,ch] at au;have ax:=List.length_pos_iff.2 hne;refine⟨by omega,?_⟩;rw[←h,pw]
theorem T'(h:k<S.size):hd (S.data.toList.drop k)=S[k]:=by
 have az:k<S.data.toList.length:=by rw[ch];exact h
 rw[rZ az];rfl
theorem alg{w0:aeo}{R deep:Nat}{st:ds}(hS:S.size≤300)(w:aeo)(h:qS w0 S R deep st w)(he:st.e=0)(az:st.ops.length≤1000)(ml:hd st.r=36):
  Calls Tryz.prog 241 #[ah R 0] w (Left w0 S R deep (iR st)):=by
 obtain⟨k,v,h⟩:=h;have hne:st.r≠[]:=by intro e;rw[e] at ml;exact absurd ml (by decide)
 obtain⟨wg,hx⟩:=aaJ h.rest hne;have H:=ao h;obtain⟨aV,aT,c2,c3,cD⟩:=h.cells;have f4:=h.frozen 4;have cK:=ao hx;have cc:=ao he;clear h hx he ml hne;go_enter Tryz.func241,Tryz.ntmps241;go_wp2_with fail
 go_loop [2,3] (fun a n=>∃i m:Nat,k+1≤i∧i≤S.size∧m≤100∧a=I (i:Int)∧n=I (m:Int)∧af (i -(k+1)≤bK (S.data.toList.drop (k+1))∧re ((S.data.toList.drop (k+1)).take (i -(k+1)))=m)) (fun a _=>S.size -(intOf a).toNat)
 case atStart=>exact⟨k+1,0,by omega,by omega,by omega,by go_num,rfl,by show k+1 -(k+1)≤_;omega,by rw[T6];rfl⟩
 case round=>
  obtain⟨i,m,pN,Lb,hm,rfl,rfl,p4⟩:=hrel;by_cases qj:i<S.size∧fi (S.data.toList.getD i 0)=true
  ·obtain⟨bm,aaK⟩:=qj;have CH:fi S[i]=true:=(by have:S.data.toList.getD i 0=S[i]:=(by rw[zl,iW (by rw[ch];exact bm)];rfl);rw[←this];exact aaK);obtain⟨X,b2,sE⟩:=HF bm;have aH:af ((decide (48≤(X:Int))&&decide ((X:Int)≤57))=true):=T8 bm b2 true CH;have T9:((S[i].toNat:Nat):Int)=(X:Int):=(by rw[b2]);have alh:48≤X∧X≤57:=(by rw[←b2];exact (sZ _).1 CH);obtain⟨au7,au8⟩:=alh;obtain⟨V,jK⟩:∃V:Nat,min (10 *m+(X-48)) 100=V:=⟨_,rfl⟩;have au9:min (10 *(m:Int)+((X:Int)-48)) 100=(V:Int):=(by omega);have ali:V≤100:=(by omega);have bd:af (i+1 -(k+1)≤bK (S.data.toList.drop (k+1))∧re ((S.data.toList.drop (k+1)).take (i+1 -(k+1)))=V):=⟨aaF pN bm p4.out.1 CH,by rw[alf pN bm b2 p4.out.2,jK]⟩;clear b2 jK aaK CH;go_wp2_with fail;with_reducible refine (HE _ true aH _).mono ?_
   rintro e w' ⟨rfl,rfl⟩;go_wp2_with fail;go_round
   case rel=>exact⟨i+1,V,by omega,by omega,ali,by go_num,rfl,bd⟩
   case measure=>simp[intOf];omega
  ·by_cases bm:i<S.size
   ·obtain⟨X,b2,sE⟩:=HF bm;have CH:fi S[i]=false:=(by rw[yC];intro gL;apply qj;refine⟨bm,?_⟩;have:S.data.toList.getD i 0=S[i]:=(by rw[zl,iW (by rw[ch];exact bm)];rfl);rw[this];exact gL);have aH:af ((decide (48≤(X:Int))&&decide ((X:Int)≤57))=false):=T8 bm b2 false CH;have T9:((S[i].toNat:Nat):Int)=(X:Int):=(by rw[b2]);have Lc:=aaG pN bm p4.out.1 CH;have aJ:af (k+1+bK (S.data.toList.drop (k+1))=i∧re ((S.data.toList.drop (k+1)).take (bK (S.data.toList.drop (k+1))))=m):=⟨Lc,by rw[←p4.out.2];congr 2;omega⟩;clear b2 CH qj Lc;go_wp2_with fail;with_reducible refine (HE _ false aH _).mono ?_
    rintro e w' ⟨rfl,rfl⟩;go_wp2_with fail;by_cases fX:(m:Int)<1
    ·have cM:af (iR st=⟨st.r,st.ops,3⟩):=by show _=_;unfold iR;rw[←cK.out,aJ.out.2,aW (.inl (by omega))]
     go_quiet (fail)
     go_wp2_with fail;refine cL (o5 rfl _ _ _) rfl ?_;exact⟨rfl,by rw[cM.out];exact⟨k,v,(H.out.drewN _).err 3⟩⟩
    ·by_cases jH:99<(m:Int)
     ·have cM:af (iR st=⟨st.r,st.ops,3⟩):=by show _=_;unfold iR;rw[←cK.out,aJ.out.2,aW (.inr (.inl (by omega)))]
      go_quiet (fail)
      go_wp2_with fail;refine cL (o5 rfl _ _ _) rfl ?_;exact⟨rfl,by rw[cM.out];exact⟨k,v,(H.out.drewN _).err 3⟩⟩
     ·have eM:k+1<S.size:=(by apply vJ;intro hn;have au:=aJ.out.2;rw[Ac (by rw[ch];omega)] at au;have ax:re (List.take (bK []) [])=0:=rfl;omega);obtain⟨Y,e7,O6⟩:=HF eM;have alj:((S[k+1].toNat:Nat):Int)=(Y:Int):=(by rw[e7]);have aE:hd (st.r.drop 1)=S[k+1]:=(by rw[←cK.out];exact T' eM);by_cases ik:Y=48
      ·have t48:((Y:Int)==48)=true:=(by rw[ik];rfl);have cM:af (iR st=⟨st.r,st.ops,3⟩):=(by show _=_;unfold iR;rw[aW (.inr (.inr (by rw[aE];apply UInt8.toNat_inj.1;rw[e7,ik];rfl)))]);clear aE e7 ik
       go_quiet (fail)
       go_wp2_with fail;refine cL (o5 rfl _ _ _) rfl ?_;exact⟨rfl,by rw[cM.out];exact⟨k,v,(H.out.drewN _).err 3⟩⟩
      ·have t48:((Y:Int)==48)=false:=by simp;omega
       have cM:af (iR st=⟨(st.r.drop 1).drop (bK (st.r.drop 1)),st.ops++[(2,(m:Int))],0⟩∧put st 2 (m:Int)=⟨st.r,st.ops++[(2,(m:Int))],0⟩∧S.data.toList.drop i=(st.r.drop 1).drop (bK (st.r.drop 1))):=by
        refine⟨?_,by unfold put;rw[aW cc.out],by rw[←cK.out,pw,aJ.out.1]⟩;unfold iR;rw[←cK.out,aJ.out.2,aN];rintro (h|h|h)
        ·omega
        ·omega
        ·rw[cK.out,aE] at h;apply ik;rw[←e7,h];rfl
       clear aE e7 ik
       go_quiet (fail)
       go_wp2_with fail;with_reducible refine (xH _ (H.out.drewN _).any az 2 (m:Int)).mono ?_
       rintro e w' ⟨rfl,tl,v',eQ⟩;have AY:=ao eQ;obtain⟨d0,d1,d2,d3,d4⟩:=eQ.cells;have f1:=eQ.frozen 1;clear eQ aV aT c2 c3 cD f4;go_wp2_with fail;go_end0;refine⟨rfl,i,v',?_⟩;have hJ:=AY.out.step Lb rfl;rw[cM.out.2.1,cM.out.2.2] at hJ;rw[cM.out.1];exact hJ
   ·have Lc:=aaH pN bm Lb p4.out.1;have aJ:af (k+1+bK (S.data.toList.drop (k+1))=i∧re ((S.data.toList.drop (k+1)).take (bK (S.data.toList.drop (k+1))))=m):=⟨Lc,by rw[←p4.out.2];congr 2;omega⟩;clear qj Lc;go_wp2_with fail;by_cases fX:(m:Int)<1
    ·have cM:af (iR st=⟨st.r,st.ops,3⟩):=by show _=_;unfold iR;rw[←cK.out,aJ.out.2,aW (.inl (by omega))]
     go_quiet (fail)
     go_wp2_with fail;refine cL (o5 rfl _ _ _) rfl ?_;exact⟨rfl,by rw[cM.out];exact⟨k,v,(H.out.drewN _).err 3⟩⟩
    ·by_cases jH:99<(m:Int)
     ·have cM:af (iR st=⟨st.r,st.ops,3⟩):=by show _=_;unfold iR;rw[←cK.out,aJ.out.2,aW (.inr (.inl (by omega)))]
      go_quiet (fail)
      go_wp2_with fail;refine cL (o5 rfl _ _ _) rfl ?_;exact⟨rfl,by rw[cM.out];exact⟨k,v,(H.out.drewN _).err 3⟩⟩
     ·have eM:k+1<S.size:=(by apply vJ;intro hn;have au:=aJ.out.2;rw[Ac (by rw[ch];omega)] at au;have ax:re (List.take (bK []) [])=0:=rfl;omega);obtain⟨Y,e7,O6⟩:=HF eM;have alj:((S[k+1].toNat:Nat):Int)=(Y:Int):=(by rw[e7]);have aE:hd (st.r.drop 1)=S[k+1]:=(by rw[←cK.out];exact T' eM);by_cases ik:Y=48
      ·have t48:((Y:Int)==48)=true:=(by rw[ik];rfl);have cM:af (iR st=⟨st.r,st.ops,3⟩):=(by show _=_;unfold iR;rw[aW (.inr (.inr (by rw[aE];apply UInt8.toNat_inj.1;rw[e7,ik];rfl)))]);clear aE e7 ik
       go_quiet (fail)
       go_wp2_with fail;refine cL (o5 rfl _ _ _) rfl ?_;exact⟨rfl,by rw[cM.out];exact⟨k,v,(H.out.drewN _).err 3⟩⟩
      ·have t48:((Y:Int)==48)=false:=by simp;omega
       have cM:af (iR st=⟨(st.r.drop 1).drop (bK (st.r.drop 1)),st.ops++[(2,(m:Int))],0⟩∧put st 2 (m:Int)=⟨st.r,st.ops++[(2,(m:Int))],0⟩∧S.data.toList.drop i=(st.r.drop 1).drop (bK (st.r.drop 1))):=by
        refine⟨?_,by unfold put;rw[aW cc.out],by rw[←cK.out,pw,aJ.out.1]⟩;unfold iR;rw[←cK.out,aJ.out.2,aN];rintro (h|h|h)
        ·omega
        ·omega
        ·rw[cK.out,aE] at h;apply ik;rw[←e7,h];rfl
       clear aE e7 ik
       go_quiet (fail)
       go_wp2_with fail;with_reducible refine (xH _ (H.out.drewN _).any az 2 (m:Int)).mono ?_
       rintro e w' ⟨rfl,tl,v',eQ⟩;have AY:=ao eQ;obtain⟨d0,d1,d2,d3,d4⟩:=eQ.cells;have f1:=eQ.frozen 1;clear eQ aV aT c2 c3 cD f4;go_wp2_with fail;go_end0;refine⟨rfl,i,v',?_⟩;have hJ:=AY.out.step Lb rfl;rw[cM.out.2.1,cM.out.2.2] at hJ;rw[cM.out.1];exact hJ
end hL
namespace hL
open Go.RowKit ga gI ph Mem jz
theorem Ub(s:Ua)(v:Int)(b:Bool)(aS:af ((dec s.data.toList).getD 0=v∧(dec s.data.toList).isSome=b))(hs:s.size≤maxLen)(w:aeo):
  Calls Tryz.prog 112 #[aa s] w fun e w'=>e=ab (.tuple #[I v,U b])∧w'=w:=by
 obtain⟨au,ax⟩:=aS.out;subst au;subst ax;exact (Hi s w hs).mono fun _ _ h=>⟨h.1,h.2.symm⟩
theorem aaL(S:Ua)(k m:Nat):(S.extract k m).data.toList=(S.data.toList.drop k).take (m-k):=by rw[AE]
variable{S:Ua}{k R deep d:Nat}
theorem alk{m1:Nat}(fX:k+bK (S.data.toList.drop k)=m1):
  (¬(m1<S.size∧hd (S.data.toList.drop m1)=46)→k+mj (S.data.toList.drop k)=m1)∧(hd (S.data.toList.drop m1)=46→k+mj (S.data.toList.drop k)=m1+1+bK (S.data.toList.drop (m1+1))):=by
 have aY:(S.data.toList.drop k).drop (bK (S.data.toList.drop k))=S.data.toList.drop m1:=by rw[pw,fX]
 have a6:(S.data.toList.drop k).drop (bK (S.data.toList.drop k)+1)=S.data.toList.drop (m1+1):=by rw[pw];congr 1;omega
 unfold mj;rw[aY,a6];constructor
 ·intro h;rw[aN]
  ·exact fX
  ·intro kj;apply h;refine⟨?_,kj⟩;apply vJ;intro hn;rw[Ac (by rw[ch];omega)] at kj;exact absurd kj (by decide)
 ·intro h;rw[aW h];omega
theorem aaM(S:Ua)(k:Nat)(aw:k≤S.size):k+bK (S.data.toList.drop k)≤S.size:=by have au:=r1 (S.data.toList.drop k);rw[e8,ch] at au;omega
variable{w0 w:aeo}{st goal:ds}
theorem CI(hS:S.size≤300)(w:aeo)(h:qS w0 S R deep st w)(he:st.e=0)(az:st.ops.length≤1000):
  Calls Tryz.prog 243 #[ah R 0] w (Left w0 S R deep (jB st)):=by
 obtain⟨k,v,h⟩:=h;have aw:=h.uZ;have H:=ao h;obtain⟨aV,aT,c2,c3,cD⟩:=h.cells;have f1:=h.frozen 1;have f4:=h.frozen 4;have cc:=ao he;obtain⟨m1,fX⟩:=aq (k+bK (S.data.toList.drop k));have ez:=ao fX;have ava:m1≤S.size:=by rw[←fX];exact aaM S k aw
 have avb:k≤m1:=by omega
 obtain⟨m,hm⟩:=aq (k+mj (S.data.toList.drop k));have bN:=ao hm;have hne:=alk fX
 have x0:k≤m∧m≤S.size:=by
  refine⟨by omega,?_⟩;by_cases kj:m1<S.size∧hd (S.data.toList.drop m1)=46
  ·have au:=hne.2 kj.2;have ax:=aaM S (m1+1) (by omega);omega
  ·have au:=hne.1 kj;omega
 obtain⟨Gx,x0⟩:=x0;have jb:=ao hne;clear h he fX hm hne;obtain⟨z,bP⟩:=aq ((dec (S.extract k m).data.toList).getD 0);obtain⟨b,ay⟩:=aq ((dec (S.extract k m).data.toList).isSome);have bw:af ((dec (S.extract k m).data.toList).getD 0=z∧(dec (S.extract k m).data.toList).isSome=b):=⟨bP,ay⟩;have mE:(S.extract k m).size≤300:=by have au:=fS List.length (aaL S k m);rw[ch,lz] at au;omega
 have HG:af ((S.extract k m).data.toList=st.r.take (mj st.r)):=by
  show _=_;rw[aaL,H.out.rest]
  congr 1
  have:=bN.out;rw[H.out.rest] at this;omega
 clear bP ay;have i0:(0:Int)≤(k:Int):=by omega
 have i1:(k:Int)≤(m:Int):=by omega
 have i2:(m:Int)≤(S.size:Int):=by omega
 go_enter Tryz.func243,Tryz.ntmps243;go_wp2_with fail;with_reducible refine (aaI hS _ aV k aw _ (ao (Eq.refl _)) m1 ez).mono ?_
 rintro e w' ⟨rfl,rfl⟩;by_cases bm:m1<S.size
 ·obtain⟨X,b2,sE⟩:=HF bm;have T9:((S[m1].toNat:Nat):Int)=(X:Int):=(by rw[b2]);have aE:=T' bm;by_cases kj:X=46
  ·have t46:((X:Int)==46)=true:=(by rw[kj];rfl);have Uc:af (m1+1+bK (S.data.toList.drop (m1+1))=m):=(by show _=_;rw[←bN.out];exact (jb.out.2 (by rw[aE];apply UInt8.toNat_inj.1;rw[b2,kj];rfl)).symm);have alm:af ((m1:Int)+1=((m1+1:Nat):Int)):=(by show _=_;omega);clear b2 aE kj;go_wp2_with fail;with_reducible refine (aaI hS _ aV (m1+1) (by omega) _ alm m Uc).mono ?_
   rintro e w' ⟨rfl,rfl⟩;go_wp2_with fail
   go_quiet ((go_at_call 112;exact s7 (Ub _ z b bw (by unfold maxLen;omega) _)))
   cases b with
   |false=>
    have cM:af (jB st=⟨st.r,st.ops,3⟩):=by
     show _=_;have au:=bw.out.2;rw[HG.out] at au;unfold jB;cases gL:dec (st.r.take (mj st.r)) with
     |none=>rfl
     |some n=>rw[gL] at au;cases au
    go_wp2_with fail;refine cL (o5 rfl _ _ _) rfl ?_;exact⟨rfl,by rw[cM.out];exact⟨k,v,(H.out.drewN _).err 3⟩⟩
   |true=>
    have cM:af (jB st=⟨st.r.drop (mj st.r),st.ops++[(1,z)],0⟩∧put st 1 z=⟨st.r,st.ops++[(1,z)],0⟩∧S.data.toList.drop m=st.r.drop (mj st.r)):=by
     refine⟨?_,by unfold put;rw[aW cc.out],by rw[←bN.out,H.out.rest,←pw,H.out.rest]⟩;have au:=bw.out;rw[HG.out] at au;unfold jB;cases gL:dec (st.r.take (mj st.r)) with
     |none=>rw[gL] at au;cases au.2
     |some n=>rw[gL] at au;have ax:n=z:=au.1;rw[ax]
    go_wp2_with fail;with_reducible refine (xH _ (H.out.drewN _).any az 1 z).mono ?_
    rintro e w' ⟨rfl,tl,v',eQ⟩;have AY:=ao eQ;obtain⟨d0,d1,d2,d3,d4⟩:=eQ.cells;have g1:=eQ.frozen 1;clear eQ aV aT c2 c3 cD f4 f1;go_wp2_with fail;go_end0;refine⟨rfl,m,v',?_⟩;have hJ:=AY.out.step x0 rfl;rw[cM.out.2.1,cM.out.2.2] at hJ;rw[cM.out.1];exact hJ
  ·have t46:((X:Int)==46)=false:=(by simp;omega);obtain rfl:m1=m:=(by rw[←bN.out];refine (jb.out.1 ?_).symm;rintro⟨_,h⟩;rw[aE] at h;apply kj;rw[←b2,h];rfl);clear b2 aE kj;go_wp2_with fail
   go_quiet ((go_at_call 112;exact s7 (Ub _ z b bw (by unfold maxLen;omega) _)))
   cases b with
   |false=>
    have cM:af (jB st=⟨st.r,st.ops,3⟩):=by
     show _=_;have au:=bw.out.2;rw[HG.out] at au;unfold jB;cases gL:dec (st.r.take (mj st.r)) with
     |none=>rfl
     |some n=>rw[gL] at au;cases au
    go_wp2_with fail;refine cL (o5 rfl _ _ _) rfl ?_;exact⟨rfl,by rw[cM.out];exact⟨k,v,(H.out.drewN _).err 3⟩⟩
   |true=>
    have cM:af (jB st=⟨st.r.drop (mj st.r),st.ops++[(1,z)],0⟩∧put st 1 z=⟨st.r,st.ops++[(1,z)],0⟩∧S.data.toList.drop m1=st.r.drop (mj st.r)):=by
     refine⟨?_,by unfold put;rw[aW cc.out],by rw[←bN.out,H.out.rest,←pw,H.out.rest]⟩;have au:=bw.out;rw[HG.out] at au;unfold jB;cases gL:dec (st.r.take (mj st.r)) with
     |none=>rw[gL] at au;cases au.2
     |some n=>rw[gL] at au;have ax:n=z:=au.1;rw[ax]
    go_wp2_with fail;with_reducible refine (xH _ (H.out.drewN _).any az 1 z).mono ?_
    rintro e w' ⟨rfl,tl,v',eQ⟩;have AY:=ao eQ;obtain⟨d0,d1,d2,d3,d4⟩:=eQ.cells;have g1:=eQ.frozen 1;clear eQ aV aT c2 c3 cD f4 f1;go_wp2_with fail;go_end0;refine⟨rfl,m1,v',?_⟩;have hJ:=AY.out.step x0 rfl;rw[cM.out.2.1,cM.out.2.2] at hJ;rw[cM.out.1];exact hJ
 ·obtain rfl:m1=m:=(by rw[←bN.out];exact (jb.out.1 (fun h=>bm h.1)).symm);go_wp2_with fail
  go_quiet ((go_at_call 112;exact s7 (Ub _ z b bw (by unfold maxLen;omega) _)))
  cases b with
  |false=>
   have cM:af (jB st=⟨st.r,st.ops,3⟩):=by
    show _=_;have au:=bw.out.2;rw[HG.out] at au;unfold jB;cases gL:dec (st.r.take (mj st.r)) with
    |none=>rfl
    |some n=>rw[gL] at au;cases au
   go_wp2_with fail;refine cL (o5 rfl _ _ _) rfl ?_;exact⟨rfl,by rw[cM.out];exact⟨k,v,(H.out.drewN _).err 3⟩⟩
  |true=>
   have cM:af (jB st=⟨st.r.drop (mj st.r),st.ops++[(1,z)],0⟩∧put st 1 z=⟨st.r,st.ops++[(1,z)],0⟩∧S.data.toList.drop m1=st.r.drop (mj st.r)):=by
    refine⟨?_,by unfold put;rw[aW cc.out],by rw[←bN.out,H.out.rest,←pw,H.out.rest]⟩;have au:=bw.out;rw[HG.out] at au;unfold jB;cases gL:dec (st.r.take (mj st.r)) with
    |none=>rw[gL] at au;cases au.2
    |some n=>rw[gL] at au;have ax:n=z:=au.1;rw[ax]
   go_wp2_with fail;with_reducible refine (xH _ (H.out.drewN _).any az 1 z).mono ?_
   rintro e w' ⟨rfl,tl,v',eQ⟩;have AY:=ao eQ;obtain⟨d0,d1,d2,d3,d4⟩:=eQ.cells;have g1:=eQ.frozen 1;clear eQ aV aT c2 c3 cD f4 f1;go_wp2_with fail;go_end0;refine⟨rfl,m1,v',?_⟩;have hJ:=AY.out.step x0 rfl;rw[cM.out.2.1,cM.out.2.2] at hJ;rw[cM.out.1];exact hJ
def tT(R:Nat)(w:aeo):Nat:=match w.cell? (aj R 1) with|some (.int _ q)=>q.toNat|_=>0
variable{v:ada}
theorem zo(h:h8 w0 S R deep st k v w):tT R w=k:=by unfold tT;rw[h.cells.2.1];simp
def E8(d:Nat):Prop:=∀(w0:aeo) (S:Ua) (R deep:Nat) (st:ds) (w:aeo),S.size≤300→deep+d=30→qS w0 S R deep st w→st.e=0→st.ops.length+st.r.length≤300→
 Calls Tryz.prog 233 #[ah R 0] w (Left w0 S R deep (e4 d st))
def O7(d:Nat):Prop:=∀(w0:aeo) (S:Ua) (R deep:Nat) (st:ds) (w:aeo),S.size≤300→deep+d=30→qS w0 S R deep st w→st.e=0→st.ops.length+st.r.length≤300→
 Calls Tryz.prog 213 #[ah R 0] w (Left w0 S R deep (ob (e4 d) st))
def Ld(d:Nat):Prop:=∀(w0:aeo) (S:Ua) (R deep:Nat) (st:ds) (w:aeo),S.size≤300→deep+d=30→qS w0 S R deep st w→st.e=0→st.ops.length+st.r.length≤300→
 Calls Tryz.prog 196 #[ah R 0] w (Left w0 S R deep (pj (e4 d) st))
theorem E8.use(hF:E8 d)(hS:S.size≤300)(hd:deep+d=30)(h:qS w0 S R deep st w)(he:st.e=0)(aB:st.ops.length+st.r.length≤300):
 Calls Tryz.prog 233 #[ah R 0] w (Left w0 S R deep (e4 d st)):=hF w0 S R deep st w hS hd h he aB
theorem O7.use(hF:O7 d)(hS:S.size≤300)(hd:deep+d=30)(h:qS w0 S R deep st w)(he:st.e=0)(aB:st.ops.length+st.r.length≤300):
 Calls Tryz.prog 213 #[ah R 0] w (Left w0 S R deep (ob (e4 d) st)):=hF w0 S R deep st w hS hd h he aB
theorem Ld.use(hF:Ld d)(hS:S.size≤300)(hd:deep+d=30)(h:qS w0 S R deep st w)(he:st.e=0)(aB:st.ops.length+st.r.length≤300):
 Calls Tryz.prog 196 #[ah R 0] w (Left w0 S R deep (pj (e4 d) st)):=hF w0 S R deep st w hS hd h he aB
def E9(op:UInt8→Option Nat)(f:ds→ds)(goal:ds)(st:ds)(K:Nat):Prop:=goal=p1 op f K st∧st.r.length<K∧st.ops.length+st.r.length≤300
theorem O8{op:UInt8→Option Nat}{f:ds→ds}{K:Nat}(h:E9 op f goal st K)(hs:st.e=0→op (hd st.r)=none):goal=st:=by rw[h.1,Np _ hs]
theorem Le{op:UInt8→Option Nat}(aF:op 0=none){f:ds→ds}(hf:BH f)(gL:Down f){K q:Nat}(h:E9 op f goal st K)(he:st.e=0)(aG:op (hd st.r)=some q):
  E9 op f goal (put (f ⟨st.r.drop 1,st.ops,0⟩) q 0) (K-1)∧(put (f ⟨st.r.drop 1,st.ops,0⟩) q 0).r.length<st.r.length∧st.r≠[]:=by
 have hne:=Rx aF aG;have hp:=List.length_pos_iff.2 hne;have au:=gL ⟨st.r.drop 1,st.ops,0⟩;have ax:=hf ⟨st.r.drop 1,st.ops,0⟩;have aA:=RA (f ⟨st.r.drop 1,st.ops,0⟩) q 0;simp only[e8] at au ax;have bb:=h.2.1;have bj:=h.2.2;obtain⟨avc,rfl⟩:∃j,K=j+1:=⟨K-1,by omega⟩;refine⟨⟨?_,?_,?_⟩,?_,hne⟩
 ·rw[h.1,ahk _ he aG];rfl
 ·rw[s4];omega
 ·rw[s4];omega
 ·rw[s4];omega
theorem h8.AZ(h:h8 w0 S R deep st k v w)(hne:st.r≠[])(he:st.e=0):h8 w0 S R deep ⟨st.r.drop 1,st.ops,0⟩ (k+1) v (w.setCell (aj R 1) (I ((k:Int)+1))):=by obtain⟨au,ax⟩:=aaJ h.rest hne;have:=h.step (m:=k+1) (by omega) ax;rw[he] at this;exact this
variable{r:ar}{c:UInt8}
theorem o6(h:hd r=c):u' r=(c.toNat:Int):=by unfold u';rw[h]
theorem x1(h:hd r≠c):(u' r==(c.toNat:Int))=false:=by rw[fO];unfold u';intro e;apply h;apply UInt8.toNat_inj.1;omega
theorem aaN(d:Nat)(hF:E8 d):O7 d:=by
 intro w0 S R deep st w hS sj h he hH;go_enter Tryz.func213,Tryz.ntmps213;go_wp2_with fail;with_reducible refine (hF.use hS sj h he hH).mono ?_
 rintro e bk ⟨rfl,au⟩;have ei:af (E9 BE (e4 d) (ob (e4 d) st) (e4 d st) (st.r.length+1)):=⟨rfl,by have:=BF d st;omega,by have:=s6 d st;omega⟩;have aQ:=ao au;clear h he hH au;go_wp2_with fail
 go_loopw [2] (fun _ wr=>∃(dh:ds) (K:Nat),af (qS w0 S R deep dh wr)∧af (E9 BE (e4 d) (ob (e4 d) st) dh K)) (fun _ wr=>S.size-tT R wr)
 case atStart=>exact⟨_,_,aQ,ei⟩
 case round=>
  obtain⟨dh,K,lY,sF⟩:=hrel;clear aQ ei;obtain⟨k,v,h⟩:=lY.out;have H:=ao h;obtain⟨aV,aT,c2,c3,cD⟩:=h.cells;have f1:=h.frozen 1;have Ud:k≤300:=cd h.uZ hS;clear h;by_cases he:dh.e=0
  ·have CJ:((dh.e:Int)==0)=true:=(by rw[he];rfl);have cc:=ao he;clear he;obtain⟨c,aB⟩:=aq (u' dh.r);have bG:=ao aB;by_cases HH:hd dh.r=120
   ·have t120:(c==120)=true:=(by rw[←aB,o6 HH];rfl);have aH:=HH;have bn:af (BE (hd dh.r)=some 5):=(by show _=_;rw[aH];rfl);have au:=Le rfl (s6 d) (BF d) sF.out cc.out bn.out;have jg:=ao au;have jb:af (dh.r≠[]):=au.2.2;have kc:af ((⟨dh.r.drop 1,dh.ops,0⟩:ds).ops.length+(⟨dh.r.drop 1,dh.ops,0⟩:ds).r.length≤300):=(by show dh.ops.length+(dh.r.drop 1).length≤300;have:=sF.out.2.2;rw[e8];omega);have vj:af (((e4 d) ⟨dh.r.drop 1,dh.ops,0⟩).ops.length≤1000):=(by show _≤_;have g1:=(s6 d) ⟨dh.r.drop 1,dh.ops,0⟩;have g2:=kc.out;omega);clear aH aB HH;clear au;go_wp2_with fail;with_reducible refine (mF _ H c bG).mono ?_
    rintro e w' ⟨cI,rfl,rfl⟩;have bd:=ao ((H.out.drewN cI).AZ jb.out cc.out).any;go_wp2_with fail;with_reducible refine (hF.use (st:=⟨dh.r.drop 1,dh.ops,0⟩) hS sj bd.out rfl kc.out).mono ?_
    rintro e bt ⟨rfl,ax⟩;go_wp2_with fail;with_reducible refine (xH _ ax vj.out 5 0).mono ?_
    rintro e db ⟨rfl,aA⟩;go_wp2_with fail;have bN:af (S.size-tT R db<S.size-tT R wr):=by show _<_;obtain⟨fk,v3,sb⟩:=aA;rw[zo sb,zo H.out];have g1:=sb.len;have g2:=H.out.len;have g3:=jg.out.2.1;have g4:=List.length_pos_iff.2 jb.out;rw[s4] at g1 g3;omega
    go_roundw
    case rel=>exact⟨_,_,aA,jg.out.1⟩
    case measure=>exact bN.out
   ·have t120:(c==120)=false:=(by rw[←aB];exact x1 HH);by_cases HI:hd dh.r=88
    ·have t88:(c==88)=true:=(by rw[←aB,o6 HI];rfl);have aH:=HI;have bn:af (BE (hd dh.r)=some 5):=(by show _=_;rw[aH];rfl);have au:=Le rfl (s6 d) (BF d) sF.out cc.out bn.out;have jg:=ao au;have jb:af (dh.r≠[]):=au.2.2;have kc:af ((⟨dh.r.drop 1,dh.ops,0⟩:ds).ops.length+(⟨dh.r.drop 1,dh.ops,0⟩:ds).r.length≤300):=(by show dh.ops.length+(dh.r.drop 1).length≤300;have:=sF.out.2.2;rw[e8];omega);have vj:af (((e4 d) ⟨dh.r.drop 1,dh.ops,0⟩).ops.length≤1000):=(by show _≤_;have g1:=(s6 d) ⟨dh.r.drop 1,dh.ops,0⟩;have g2:=kc.out;omega);clear aH aB HI;clear au;go_wp2_with fail;with_reducible refine (mF _ H c bG).mono ?_
     rintro e w' ⟨cI,rfl,rfl⟩;have bd:=ao ((H.out.drewN cI).AZ jb.out cc.out).any;go_wp2_with fail;with_reducible refine (hF.use (st:=⟨dh.r.drop 1,dh.ops,0⟩) hS sj bd.out rfl kc.out).mono ?_
     rintro e bt ⟨rfl,ax⟩;go_wp2_with fail;with_reducible refine (xH _ ax vj.out 5 0).mono ?_
     rintro e db ⟨rfl,aA⟩;go_wp2_with fail;have bN:af (S.size-tT R db<S.size-tT R wr):=by show _<_;obtain⟨fk,v3,sb⟩:=aA;rw[zo sb,zo H.out];have g1:=sb.len;have g2:=H.out.len;have g3:=jg.out.2.1;have g4:=List.length_pos_iff.2 jb.out;rw[s4] at g1 g3;omega
     go_roundw
     case rel=>exact⟨_,_,aA,jg.out.1⟩
     case measure=>exact bN.out
    ·have t88:(c==88)=false:=(by rw[←aB];exact x1 HI);by_cases HJ:hd dh.r=47
     ·have t47:(c==47)=true:=(by rw[←aB,o6 HJ];rfl);have aH:=HJ;have bn:af (BE (hd dh.r)=some 6):=(by show _=_;rw[aH];rfl);have au:=Le rfl (s6 d) (BF d) sF.out cc.out bn.out;have jg:=ao au;have jb:af (dh.r≠[]):=au.2.2;have kc:af ((⟨dh.r.drop 1,dh.ops,0⟩:ds).ops.length+(⟨dh.r.drop 1,dh.ops,0⟩:ds).r.length≤300):=(by show dh.ops.length+(dh.r.drop 1).length≤300;have:=sF.out.2.2;rw[e8];omega);have vj:af (((e4 d) ⟨dh.r.drop 1,dh.ops,0⟩).ops.length≤1000):=(by show _≤_;have g1:=(s6 d) ⟨dh.r.drop 1,dh.ops,0⟩;have g2:=kc.out;omega);clear aH aB HJ;clear au;go_wp2_with fail;with_reducible refine (mF _ H c bG).mono ?_
      rintro e w' ⟨cI,rfl,rfl⟩;have bd:=ao ((H.out.drewN cI).AZ jb.out cc.out).any;go_wp2_with fail;with_reducible refine (hF.use (st:=⟨dh.r.drop 1,dh.ops,0⟩) hS sj bd.out rfl kc.out).mono ?_
      rintro e bt ⟨rfl,ax⟩;go_wp2_with fail;with_reducible refine (xH _ ax vj.out 6 0).mono ?_
      rintro e db ⟨rfl,aA⟩;go_wp2_with fail;have bN:af (S.size-tT R db<S.size-tT R wr):=by show _<_;obtain⟨fk,v3,sb⟩:=aA;rw[zo sb,zo H.out];have g1:=sb.len;have g2:=H.out.len;have g3:=jg.out.2.1;have g4:=List.length_pos_iff.2 jb.out;rw[s4] at g1 g3;omega
      go_roundw
      case rel=>exact⟨_,_,aA,jg.out.1⟩
      case measure=>exact bN.out
     ·have t47:(c==47)=false:=(by rw[←aB];exact x1 HJ);have b9:af (ob (e4 d) st=dh):=O8 sF.out (fun _=>by unfold BE;simp[HH,HI,HJ]);clear aB HH HI HJ;go_wp2_with fail;with_reducible refine (mF _ H c bG).mono ?_
      rintro e w' ⟨cI,rfl,rfl⟩;go_wp2_with fail;refine cL (o5 rfl _ _ _) rfl ?_;exact⟨rfl,by rw[b9.out];exact (H.out.drewN cI).any⟩
  ·have CJ:((dh.e:Int)==0)=false:=(by simp;omega);have b9:af (ob (e4 d) st=dh):=O8 sF.out (fun h=>absurd h he);clear he;go_wp2_with fail;go_end0;exact⟨rfl,by rw[b9.out];exact H.out.any⟩
theorem aaO(d:Nat)(hF:O7 d):Ld d:=by
 intro w0 S R deep st w hS sj h he hH;go_enter Tryz.func196,Tryz.ntmps196;go_wp2_with fail;with_reducible refine (hF.use hS sj h he hH).mono ?_
 rintro e bk ⟨rfl,au⟩;have ei:af (E9 DL (ob (e4 d)) (pj (e4 d) st) (ob (e4 d) st) (st.r.length+1)):=⟨rfl,by have:=Jt (BF d) st;omega,by have:=DO (s6 d) st;omega⟩;have aQ:=ao au;clear h he hH au;go_wp2_with fail
 go_loopw [2] (fun _ wr=>∃(dh:ds) (K:Nat),af (qS w0 S R deep dh wr)∧af (E9 DL (ob (e4 d)) (pj (e4 d) st) dh K)) (fun _ wr=>S.size-tT R wr)
 case atStart=>exact⟨_,_,aQ,ei⟩
 case round=>
  obtain⟨dh,K,lY,sF⟩:=hrel;clear aQ ei;obtain⟨k,v,h⟩:=lY.out;have H:=ao h;obtain⟨aV,aT,c2,c3,cD⟩:=h.cells;have f1:=h.frozen 1;have Ud:k≤300:=cd h.uZ hS;clear h;by_cases he:dh.e=0
  ·have CJ:((dh.e:Int)==0)=true:=(by rw[he];rfl);have cc:=ao he;clear he;obtain⟨c,aB⟩:=aq (u' dh.r);have bG:=ao aB;by_cases HK:hd dh.r=43
   ·have t43:(c==43)=true:=(by rw[←aB,o6 HK];rfl);have aH:=HK;have bn:af (DL (hd dh.r)=some 3):=(by show _=_;rw[aH];rfl);have au:=Le rfl (DO (s6 d)) (Jt (BF d)) sF.out cc.out bn.out;have jg:=ao au;have jb:af (dh.r≠[]):=au.2.2;have kc:af ((⟨dh.r.drop 1,dh.ops,0⟩:ds).ops.length+(⟨dh.r.drop 1,dh.ops,0⟩:ds).r.length≤300):=(by show dh.ops.length+(dh.r.drop 1).length≤300;have:=sF.out.2.2;rw[e8];omega);have vj:af (((ob (e4 d)) ⟨dh.r.drop 1,dh.ops,0⟩).ops.length≤1000):=(by show _≤_;have g1:=(DO (s6 d)) ⟨dh.r.drop 1,dh.ops,0⟩;have g2:=kc.out;omega);clear aH aB HK;clear au;go_wp2_with fail;with_reducible refine (mF _ H c bG).mono ?_
    rintro e w' ⟨cI,rfl,rfl⟩;have bd:=ao ((H.out.drewN cI).AZ jb.out cc.out).any;go_wp2_with fail;with_reducible refine (hF.use (st:=⟨dh.r.drop 1,dh.ops,0⟩) hS sj bd.out rfl kc.out).mono ?_
    rintro e bt ⟨rfl,ax⟩;go_wp2_with fail;with_reducible refine (xH _ ax vj.out 3 0).mono ?_
    rintro e db ⟨rfl,aA⟩;go_wp2_with fail;have bN:af (S.size-tT R db<S.size-tT R wr):=by show _<_;obtain⟨fk,v3,sb⟩:=aA;rw[zo sb,zo H.out];have g1:=sb.len;have g2:=H.out.len;have g3:=jg.out.2.1;have g4:=List.length_pos_iff.2 jb.out;rw[s4] at g1 g3;omega
    go_roundw
    case rel=>exact⟨_,_,aA,jg.out.1⟩
    case measure=>exact bN.out
   ·have t43:(c==43)=false:=(by rw[←aB];exact x1 HK);by_cases HL:hd dh.r=45
    ·have t45:(c==45)=true:=(by rw[←aB,o6 HL];rfl);have aH:=HL;have bn:af (DL (hd dh.r)=some 4):=(by show _=_;rw[aH];rfl);have au:=Le rfl (DO (s6 d)) (Jt (BF d)) sF.out cc.out bn.out;have jg:=ao au;have jb:af (dh.r≠[]):=au.2.2;have kc:af ((⟨dh.r.drop 1,dh.ops,0⟩:ds).ops.length+(⟨dh.r.drop 1,dh.ops,0⟩:ds).r.length≤300):=(by show dh.ops.length+(dh.r.drop 1).length≤300;have:=sF.out.2.2;rw[e8];omega);have vj:af (((ob (e4 d)) ⟨dh.r.drop 1,dh.ops,0⟩).ops.length≤1000):=(by show _≤_;have g1:=(DO (s6 d)) ⟨dh.r.drop 1,dh.ops,0⟩;have g2:=kc.out;omega);clear aH aB HL;clear au;go_wp2_with fail;with_reducible refine (mF _ H c bG).mono ?_
     rintro e w' ⟨cI,rfl,rfl⟩;have bd:=ao ((H.out.drewN cI).AZ jb.out cc.out).any;go_wp2_with fail;with_reducible refine (hF.use (st:=⟨dh.r.drop 1,dh.ops,0⟩) hS sj bd.out rfl kc.out).mono ?_
     rintro e bt ⟨rfl,ax⟩;go_wp2_with fail;with_reducible refine (xH _ ax vj.out 4 0).mono ?_
     rintro e db ⟨rfl,aA⟩;go_wp2_with fail;have bN:af (S.size-tT R db<S.size-tT R wr):=by show _<_;obtain⟨fk,v3,sb⟩:=aA;rw[zo sb,zo H.out];have g1:=sb.len;have g2:=H.out.len;have g3:=jg.out.2.1;have g4:=List.length_pos_iff.2 jb.out;rw[s4] at g1 g3;omega
     go_roundw
     case rel=>exact⟨_,_,aA,jg.out.1⟩
     case measure=>exact bN.out
    ·have t45:(c==45)=false:=(by rw[←aB];exact x1 HL);have b9:af (pj (e4 d) st=dh):=O8 sF.out (fun _=>by unfold DL;simp[HK,HL]);clear aB HK HL;go_wp2_with fail;with_reducible refine (mF _ H c bG).mono ?_
     rintro e w' ⟨cI,rfl,rfl⟩;go_wp2_with fail;refine cL (o5 rfl _ _ _) rfl ?_;exact⟨rfl,by rw[b9.out];exact (H.out.drewN cI).any⟩
  ·have CJ:((dh.e:Int)==0)=false:=(by simp;omega);have b9:af (pj (e4 d) st=dh):=O8 sF.out (fun h=>absurd h he);clear he;go_wp2_with fail;go_end0;exact⟨rfl,by rw[b9.out];exact H.out.any⟩
def O9(d:Nat):Prop:=∀(w0:aeo) (S:Ua) (R deep:Nat) (st:ds) (w:aeo) (c:UInt8) (C:Int),S.size≤300→deep+d=30→qS w0 S R deep st w→st.e=0→st.ops.length+st.r.length≤300→vL c=true→af (C=(c.toNat:Int))→
 Calls Tryz.prog 240 #[ah R 0,.int .u8 C] w (Left w0 S R deep (rf (e4 d) c st))
theorem O9.use(hF:O9 d){C:Int}(hS:S.size≤300)(hd:deep+d=30)(h:qS w0 S R deep st w)(he:st.e=0)(aB:st.ops.length+st.r.length≤300)(hs:vL c=true)(lU:af (C=(c.toNat:Int))):
 Calls Tryz.prog 240 #[ah R 0,.int .u8 C] w (Left w0 S R deep (rf (e4 d) c st)):=hF w0 S R deep st w c C hS hd h he aB hs lU
theorem aln(d:Nat)(hF:E8 d)(O':Ld d):O9 d:=by
 intro w0 S R deep st w c C hS sj h he hH hs lU;rcases Nt hs with rfl|rfl|rfl
 ·obtain rfl:C=43:=lU.out;have cM:af (rf (e4 d) 43 st=e4 d st):=(by show _=_;unfold rf;rw[aN (by decide),aN (by decide)]);clear hs lU;go_enter Tryz.func240,Tryz.ntmps240;go_wp2_with fail;with_reducible refine (hF.use hS sj h he hH).mono ?_
  rintro e bk ⟨rfl,au⟩;go_wp2_with fail;refine cL (o5 rfl _ _ _) rfl ?_;exact⟨rfl,by rw[cM.out];exact au⟩
 ·obtain rfl:C=45:=lU.out;have cM:af (rf (e4 d) 45 st=put (e4 d st) 7 0):=(by show _=_;unfold rf;rw[aN (by decide),aW rfl]);have bw:af ((e4 d st).ops.length≤1000):=(by show _≤_;have:=s6 d st;omega);clear hs lU;go_enter Tryz.func240,Tryz.ntmps240;go_wp2_with fail;with_reducible refine (hF.use hS sj h he hH).mono ?_
  rintro e bk ⟨rfl,au⟩;go_wp2_with fail;with_reducible refine (xH _ au bw.out 7 0).mono ?_
  rintro e bt ⟨rfl,ax⟩;go_wp2_with fail;refine cL (o5 rfl _ _ _) rfl ?_;exact⟨rfl,by rw[cM.out];exact ax⟩
 ·obtain rfl:C=40:=lU.out;obtain⟨s1,mA⟩:=aq (pj (e4 d) st);have cM:af (rf (e4 d) 40 st=s3 s1):=(by show _=_;unfold rf;rw[aW rfl,mA]);have eb:=ao mA;clear hs lU mA;go_enter Tryz.func240,Tryz.ntmps240;go_wp2_with fail;with_reducible refine (O'.use hS sj h he hH).mono ?_
  rintro e bk ⟨rfl,au⟩;rw[eb.out] at au;obtain⟨k,v,au⟩:=au;have H1:=ao au;obtain⟨aV,aT,c2,c3,cD⟩:=au.cells;have f1:=au.frozen 1;have f4:=au.frozen 4;have Ud:k≤300:=cd au.uZ hS;clear h au he hH;by_cases bP:s1.e=0
  ·have CJ:((s1.e:Int)==0)=true:=(by rw[bP];rfl);have aU:=ao bP;clear bP;obtain⟨c,aB⟩:=aq (u' s1.r);have bG:=ao aB;by_cases s5:hd s1.r=41
   ·have t41:(c==41)=true:=(by rw[←aB,o6 s5];rfl);have dr:af (s3 s1=⟨s1.r.drop 1,s1.ops,0⟩∧s1.r≠[]):=⟨by unfold s3;rw[aW aU.out,aW s5],by intro e;rw[e] at s5;exact absurd s5 (by decide)⟩;clear aB s5;go_wp2_with fail;with_reducible refine (mF _ H1 c bG).mono ?_
    rintro e w' ⟨cI,rfl,rfl⟩;have bd:=ao ((H1.out.drewN cI).AZ dr.out.2 aU.out).any;go_wp2_with fail;go_end0;exact⟨rfl,by rw[cM.out,dr.out.1];exact bd.out⟩
   ·have t41:(c==41)=false:=(by rw[←aB];exact x1 s5);have dr:af (s3 s1=⟨s1.r,s1.ops,3⟩):=(by show _=_;unfold s3;rw[aW aU.out,aN s5]);clear aB s5;go_wp2_with fail;with_reducible refine (mF _ H1 c bG).mono ?_
    rintro e w' ⟨cI,rfl,rfl⟩;go_wp2_with fail;refine cL (o5 rfl _ _ _) rfl ?_;exact⟨rfl,by rw[cM.out,dr.out];exact ((H1.out.drewN cI).err 3).any⟩
  ·have CJ:((s1.e:Int)==0)=false:=(by simp;omega);have dr:af (s3 s1=s1):=(by show _=_;unfold s3;rw[aN bP]);clear bP;go_wp2_with fail;refine cL (o5 rfl _ _ _) rfl ?_;exact⟨rfl,by rw[cM.out,dr.out];exact H1.out.any⟩
theorem alo(h:vL (hd st.r)=false):e4 d st=oP st:=by cases d<;>(rw[e4,aN (by rw[h];decide)])
theorem aaP(d:Nat)(hS:S.size≤300)(h:qS w0 S R deep st w)(he:st.e=0)(hH:st.ops.length+st.r.length≤300)(hs:vL (hd st.r)=false):
  Calls Tryz.prog 233 #[ah R 0] w (Left w0 S R deep (e4 d st)):=by
 rw[alo hs];obtain⟨k,v,h⟩:=h;have H:=ao h;obtain⟨aV,aT,c2,c3,cD⟩:=h.cells;have f4:=h.frozen 4;have az:st.ops.length≤1000:=by omega
 obtain⟨c,aB⟩:=aq (u' st.r);have bG:=ao aB;have hne:hd st.r≠43∧hd st.r≠45∧hd st.r≠40:=by refine⟨?_,?_,?_⟩<;>(intro e;rw[e] at hs;exact absurd hs (by decide))
 have t43:(c==43)=false:=by rw[←aB];exact x1 hne.1
 have t45:(c==45)=false:=by rw[←aB];exact x1 hne.2.1
 have t40:(c==40)=false:=by rw[←aB];exact x1 hne.2.2
 clear h hH hs hne;by_cases ml:hd st.r=36
 ·have t36:(c==36)=true:=(by rw[←aB,o6 ml];rfl);have cM:af (oP st=iR st):=(by show _=_;unfold oP;rw[aW ml]);have alp:=ao ml;clear aB ml;go_enter zm,zn;go_wp2_with fail;with_reducible refine (mF _ H c bG).mono ?_
  rintro e w' ⟨cI,rfl,rfl⟩;go_wp2_with fail;with_reducible refine (alg hS _ (H.out.drewN cI).any he az alp.out).mono ?_
  rintro e bt ⟨rfl,ax⟩;go_wp2_with fail;go_end0;exact⟨rfl,by rw[cM.out];exact ax⟩
 ·have t36:(c==36)=false:=(by rw[←aB];exact x1 ml);by_cases kj:hd st.r=46
  ·have t46:(c==46)=true:=(by rw[←aB,o6 kj];rfl);have cM:af (oP st=jB st):=(by show _=_;unfold oP;rw[aN ml,aW (by rw[kj];decide)]);clear aB ml kj;go_enter zm,zn;go_wp2_with fail;with_reducible refine (mF _ H c bG).mono ?_
   rintro e w' ⟨cI,rfl,rfl⟩;go_wp2_with fail;with_reducible refine (CI hS _ (H.out.drewN cI).any he az).mono ?_
   rintro e bt ⟨rfl,ax⟩;go_wp2_with fail;go_end0;exact⟨rfl,by rw[cM.out];exact ax⟩
  ·have t46:(c==46)=false:=(by rw[←aB];exact x1 kj);obtain⟨b,ay⟩:=aq (fi (hd st.r))
   have aH:af ((decide (48≤c)&&decide (c≤57))=b):=by
    show _=_;rw[←ay,←aB];unfold fi u'
    congr 1<;>(rw[decide_eq_decide];omega)
   cases b with
   |true=>
    have cM:af (oP st=jB st):=(by show _=_;unfold oP;rw[aN ml,aW (by rw[ay];simp)]);clear aB ml kj ay;go_enter zm,zn;go_wp2_with fail;with_reducible refine (mF _ H c bG).mono ?_
    rintro e w' ⟨cI,rfl,rfl⟩;go_wp2_with fail;with_reducible refine (HE _ true aH _).mono ?_
    rintro e w' ⟨rfl,rfl⟩;go_wp2_with fail;with_reducible refine (CI hS _ (H.out.drewN cI).any he az).mono ?_
    rintro e bt ⟨rfl,ax⟩;go_wp2_with fail;go_end0;exact⟨rfl,by rw[cM.out];exact ax⟩
   |false=>
    have cM:af (oP st=⟨st.r,st.ops,3⟩):=(by show _=_;unfold oP;rw[aN ml,aN (by rw[ay];simpa using kj)]);clear aB ml kj ay;go_enter zm,zn;go_wp2_with fail;with_reducible refine (mF _ H c bG).mono ?_
    rintro e w' ⟨cI,rfl,rfl⟩;go_wp2_with fail;with_reducible refine (HE _ false aH _).mono ?_
    rintro e w' ⟨rfl,rfl⟩;go_wp2_with fail;go_end0;exact⟨rfl,by rw[cM.out];exact ((H.out.drewN cI).err 3).any⟩
theorem alq:E8 0:=by
 intro w0 S R deep st w hS sj h he hH;by_cases hs:vL (hd st.r)=true
 ·obtain⟨k,v,h⟩:=h;have H:=ao h;obtain⟨aV,aT,c2,c3,cD⟩:=h.cells;have f4:=h.frozen 4;obtain⟨c,aB⟩:=aq (u' st.r);have bG:=ao aB;obtain rfl:deep=30:=(by omega);have cM:af (e4 0 st=⟨st.r,st.ops,6⟩):=(by show _=_;rw[e4,aW hs]);have aU:af (Left w0 S R 30 (e4 0 st)=Left w0 S R 30 ⟨st.r,st.ops,6⟩):=(by show _=_;rw[cM.out]);clear h hH he;rcases Nt hs with aF|aF|aF
  ·skip
   have t43:(c==43)=true:=(by rw[←aB,o6 aF];rfl);clear aB hs aF;go_enter zm,zn;go_wp2_with fail;with_reducible refine (mF _ H c bG).mono ?_
   rintro e w' ⟨cI,rfl,rfl⟩;go_wp2_with fail;refine cL (o5 rfl _ _ _) rfl ?_;exact⟨rfl,by rw[cM.out];exact ((H.out.drewN cI).err 6).any⟩
  ·skip
   have t43:(c==43)=false:=(by rw[←aB,o6 aF];rfl);have t45:(c==45)=true:=(by rw[←aB,o6 aF];rfl);clear aB hs aF;go_enter zm,zn;go_wp2_with fail;with_reducible refine (mF _ H c bG).mono ?_
   rintro e w' ⟨cI,rfl,rfl⟩;go_wp2_with fail;refine cL (o5 rfl _ _ _) rfl ?_;exact⟨rfl,by rw[cM.out];exact ((H.out.drewN cI).err 6).any⟩
  ·skip
   have t43:(c==43)=false:=(by rw[←aB,o6 aF];rfl);have t45:(c==45)=false:=(by rw[←aB,o6 aF];rfl);have t40:(c==40)=true:=(by rw[←aB,o6 aF];rfl);clear aB hs aF;go_enter zm,zn;go_wp2_with fail;with_reducible refine (mF _ H c bG).mono ?_
   rintro e w' ⟨cI,rfl,rfl⟩;go_wp2_with fail;refine cL (o5 rfl _ _ _) rfl ?_;exact⟨rfl,by rw[cM.out];exact ((H.out.drewN cI).err 6).any⟩
 ·exact aaP 0 hS h he hH (by simpa using hs)
theorem h8.Ue(h:h8 w0 S R deep st k v w):h8 w0 S R (deep+1) st k v (w.setCell (aj R 2) (I ((deep:Int)+1))):=h.OD (deep+1)
theorem alr(d:Nat)(xM:O9 d):E8 (d+1):=by
 intro w0 S R deep st w hS sj h he hH;by_cases hs:vL (hd st.r)=true
 ·obtain⟨k,v,h⟩:=h;have H:=ao h;obtain⟨aV,aT,c2,c3,cD⟩:=h.cells;have f1:=h.frozen 1;have f2:=h.frozen 2;have Ud:k≤300:=cd h.uZ hS;obtain⟨c,aB⟩:=aq (u' st.r);have bG:=ao aB;have avd:((deep:Int)==30)=false:=(by simp;omega);have cM:af (e4 (d+1) st=rf (e4 d) (hd st.r) ⟨st.r.drop 1,st.ops,0⟩):=(by show _=_;rw[e4,aW hs,he]);have jb:=ao (XZ hs);have cc:=ao he;have kc:af ((⟨st.r.drop 1,st.ops,0⟩:ds).ops.length+(⟨st.r.drop 1,st.ops,0⟩:ds).r.length≤300):=(by show st.ops.length+(st.r.drop 1).length≤300;rw[e8];omega);have Uf:deep+1+d=30:=(by omega);have Ug:=ao hs;have E':af (c=((hd st.r).toNat:Int)):=(by show _=_;rw[←aB];rfl);clear h hH he;rcases Nt hs with aF|aF|aF
  ·skip
   have t43:(c==43)=true:=(by rw[←aB,o6 aF];rfl);clear aB hs aF;go_enter zm,zn;go_wp2_with fail;with_reducible refine (mF _ H c bG).mono ?_
   rintro e w' ⟨cI,rfl,rfl⟩;have bd:=ao ((H.out.drewN cI).AZ jb.out cc.out).Ue.any;go_wp2_with fail;with_reducible refine (xM.use hS Uf bd.out rfl kc.out Ug.out E').mono ?_
   rintro e bt ⟨rfl,bM,v2,ax⟩;have bp:=ao ax;obtain⟨d0,d1,d2,d3,d4⟩:=ax.cells;have g2:=ax.frozen 2;have aQ:=ao (ax.OD deep).any;clear ax aV aT c2 c3 cD f1 f2;go_wp2_with fail;go_end0;exact⟨rfl,by rw[cM.out];exact aQ.out⟩
  ·skip
   have t43:(c==43)=false:=(by rw[←aB,o6 aF];rfl);have t45:(c==45)=true:=(by rw[←aB,o6 aF];rfl);clear aB hs aF;go_enter zm,zn;go_wp2_with fail;with_reducible refine (mF _ H c bG).mono ?_
   rintro e w' ⟨cI,rfl,rfl⟩;have bd:=ao ((H.out.drewN cI).AZ jb.out cc.out).Ue.any;go_wp2_with fail;with_reducible refine (xM.use hS Uf bd.out rfl kc.out Ug.out E').mono ?_
   rintro e bt ⟨rfl,bM,v2,ax⟩;have bp:=ao ax;obtain⟨d0,d1,d2,d3,d4⟩:=ax.cells;have g2:=ax.frozen 2;have aQ:=ao (ax.OD deep).any;clear ax aV aT c2 c3 cD f1 f2;go_wp2_with fail;go_end0;exact⟨rfl,by rw[cM.out];exact aQ.out⟩
  ·skip
   have t43:(c==43)=false:=(by rw[←aB,o6 aF];rfl);have t45:(c==45)=false:=(by rw[←aB,o6 aF];rfl);have t40:(c==40)=true:=(by rw[←aB,o6 aF];rfl);clear aB hs aF;go_enter zm,zn;go_wp2_with fail;with_reducible refine (mF _ H c bG).mono ?_
   rintro e w' ⟨cI,rfl,rfl⟩;have bd:=ao ((H.out.drewN cI).AZ jb.out cc.out).Ue.any;go_wp2_with fail;with_reducible refine (xM.use hS Uf bd.out rfl kc.out Ug.out E').mono ?_
   rintro e bt ⟨rfl,bM,v2,ax⟩;have bp:=ao ax;obtain⟨d0,d1,d2,d3,d4⟩:=ax.cells;have g2:=ax.frozen 2;have aQ:=ao (ax.OD deep).any;clear ax aV aT c2 c3 cD f1 f2;go_wp2_with fail;go_end0;exact⟨rfl,by rw[cM.out];exact aQ.out⟩
 ·exact aaP (d+1) hS h he hH (by simpa using hs)
theorem Uh:∀d,E8 d
 |0=>alq
 |d+1=>alr d (aln d (Uh d) (aaO d (aaN d (Uh d))))
theorem als:Ld 30:=aaO 30 (aaN 30 (Uh 30))
def alu(l:List (Int×Int))(a e:Nat)(w:aeo)(b3:Ending)(w':aeo):Prop:=
 ∃v,b3=ab (.tuple #[v,I (a:Int),I (e:Int)])∧w'.ownsRow w.heap.size 313 2 v l.length (e' l)∧an w w w'
theorem Ui(w:aeo)(B:Nat):w.ownsRow B 313 2 (J 0) ([]:List (Int×Int)).length (e' []):=⟨rfl,.inl ⟨rfl,rfl⟩⟩
theorem aaQ(S:Ua)(hm:S.size≤maxLen)(w:aeo)(l:List (Int×Int))(a e:Nat)(hp:af (uu S.data.toList=(l,a,e))):
  Calls Tryz.prog 179 #[aa S] w (alu l a e w):=by
 unfold maxLen at hm;have hlen:S.data.toList.length=S.size:=ch S;by_cases alv:300<(S.size:Int)
 ·have hx:=hp.out;unfold uu at hx;rw[aW (by omega)] at hx;simp only[fg] at hx;obtain⟨rfl,rfl,rfl⟩:=hx;clear hlen;go_enter Tryz.func179,Tryz.ntmps179;go_wp2_with fail;go_ret3;exact⟨_,rfl,Ui w _,Below.refl _ _⟩
 ·have hS:S.size≤300:=(by omega);obtain⟨s1,mA⟩:=aq (iF S.data.toList);have cK:af ((if p2 s1=0 then (s1.ops,0,0) else ([],S.size-s1.r.length,p2 s1))=(l,a,e)):=(by show _=_;have hx:=hp.out;unfold uu at hx;rw[aN (by omega),mA,hlen] at hx;exact hx);have eb:af (pj (e4 30) ⟨S.data.toList,[],0⟩=s1):=mA
  have alw:af (qS w S w.heap.size 0 ⟨S.data.toList,[],0⟩ (w.alloc (OC S 0 0 (J 0) 0))):=
   ⟨0,J 0,cO _,rfl,dL w _,⟨rfl,.inl ⟨rfl,rfl⟩⟩,(Below.refl _ _).alloc (aP _) _,aP _⟩
  have bG:af ((⟨S.data.toList,[],0⟩:ds).ops.length+(⟨S.data.toList,[],0⟩:ds).r.length≤300):=(by show 0+S.data.toList.length≤300;omega);clear mA hlen hp;go_enter Tryz.func179,Tryz.ntmps179;go_wp2_with fail;with_reducible refine (als.use (st:=⟨S.data.toList,[],0⟩) hS rfl alw.out rfl bG.out).mono ?_
  rw[eb.out];rintro b3 bk ⟨rfl,k,v,au⟩;have H1:=ao au;have wg:=au.uZ;have jg:=ao au.len;obtain⟨aV,aT,c2,c3,cD⟩:=au.cells;have f4:=au.frozen 4;clear au;by_cases bP:s1.e=0
  ·have CJ:((s1.e:Int)==0)=true:=(by rw[bP];rfl);by_cases hr:k<S.size
   ·have cc:af (l=[]∧a=k∧e=3):=(by have hx:=cK.out;have Uj:s1.r≠[]:=(by intro e;have:=jg.out;rw[e] at this;simp at this;omega);have aA:p2 s1=3:=(by unfold p2;rw[aW bP,aN Uj]);rw[aA,aN (by decide)] at hx;simp only[fg] at hx;exact⟨hx.1.symm,by have:=jg.out;omega,hx.2.2.symm⟩);obtain⟨rfl,rfl,rfl⟩:=cc.out;clear bP cK eb;have aH:af (an w w (bk.setCell (aj w.heap.size 4) (I 3))):=H1.out.aM.setCell (aP _) _;go_wp2_with fail
    go_quiet (fail)
    go_wp2_with fail;go_ret3;exact⟨_,rfl,Ui _ _,below_drewN aH.out _⟩
   ·have cc:af (l=s1.ops∧a=0∧e=0):=(by have hx:=cK.out;have Uj:s1.r=[]:=(by have:=jg.out;exact lP (by omega));have aA:p2 s1=0:=(by unfold p2;rw[aW bP,aW Uj]);rw[aA,aW rfl] at hx;simp only[fg] at hx;exact⟨hx.1.symm,hx.2.1.symm,hx.2.2.symm⟩);obtain⟨rfl,rfl,rfl⟩:=cc.out;clear bP cK eb;go_wp2_with fail;go_ret3;exact⟨v,rfl,H1.out.own,H1.out.aM⟩
  ·have CJ:((s1.e:Int)==0)=false:=(by simp;omega);have cc:af (l=[]∧a=k∧e=s1.e):=(by have hx:=cK.out;have aA:p2 s1=s1.e:=(by unfold p2;rw[aN bP]);rw[aA,aN bP] at hx;simp only[fg] at hx;exact⟨hx.1.symm,by have:=jg.out;omega,hx.2.2.symm⟩);obtain⟨rfl,rfl,rfl⟩:=cc.out;clear bP cK eb;go_wp2_with fail
   go_quiet (fail)
   go_wp2_with fail;go_ret3;exact⟨_,rfl,Ui _ _,below_drewN H1.out.aM _⟩
end hL
