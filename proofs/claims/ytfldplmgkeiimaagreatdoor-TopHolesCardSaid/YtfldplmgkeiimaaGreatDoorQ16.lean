/- Lemmas. -/
import Derived.Test.YtfldplmgkeiimaaGreatDoorQ14
set_option linter.all false
set_option maxRecDepth 100000
set_option maxHeartbeats 3200000
namespace Go.Proofs.YtfldplmgkeiimaaGreatDoor
abbrev Lw:=@Nat.sub_self
abbrev yt:=@List.getD_eq_getElem?_getD
abbrev z7:=@Proofs.Tryz.func318
abbrev z8:=@Proofs.Tryz.ntmps318
namespace rG
open Go.RowKit kG pH xy Mem
theorem H6(X:Int)(b:Bool)(af:J ((decide (48≤X)&&decide (X≤57))=b))(w:bTo):
  Calls Tryz.prog 330 #[.int .u8 X] w fun e w'=>e=bb (ai b)∧w=w':=by
 by_cases aa:48≤X
 ·by_cases ah:X≤57
  ·obtain rfl:true=b:=(by rw[←af.out];simp[aa,ah]);go_enter Tryz.func330,Tryz.ntmps330;go_wp2_with fail;go_ret;exact⟨rfl,rfl⟩
  ·obtain rfl:false=b:=(by rw[←af.out];simp[ah]);go_enter Tryz.func330,Tryz.ntmps330;go_wp2_with fail;go_ret;exact⟨rfl,rfl⟩
 ·obtain rfl:false=b:=(by rw[←af.out];simp[aa]);go_enter Tryz.func330,Tryz.ntmps330;go_wp2_with fail;go_ret;exact⟨rfl,rfl⟩
variable{S:aia}{i k:Nat}
theorem H7(h:i<S.size):∃X:Nat,S[i].toNat=X∧X<256:=⟨_,rfl,UInt8.toNat_lt _⟩
theorem drop_at{j:Nat}(h:k+j<S.size):∃cB:j<(S.data.toList.drop k).length,(S.data.toList.drop k)[j]=S[k+j]:=by have aj:S.data.toList.length=S.size:=cR S;exact⟨by rw[gZ,aj];omega,by rw[Oi];rfl⟩
theorem abv(ab:k≤i)(h:i<S.size)(cB:i-k≤bC (S.data.toList.drop k))(hd:fi S[i]=true):i+1-k≤bC (S.data.toList.drop k):=by obtain⟨j,rfl⟩:∃j,i=k+j:=⟨i-k,by omega⟩;obtain⟨aa,ah⟩:=drop_at h;have:=NK (k:=j) (by omega) aa (by rw[ah];exact hd);omega
theorem abw(ab:k≤i)(h:i<S.size)(cB:i-k≤bC (S.data.toList.drop k))(hd:fi S[i]=false):k+bC (S.data.toList.drop k)=i:=by obtain⟨j,rfl⟩:∃j,i=k+j:=⟨i-k,by omega⟩;obtain⟨aa,ah⟩:=drop_at h;have:=JQ (k:=j) (by omega) aa (by rw[ah];exact hd);omega
theorem abx(ab:k≤i)(h:¬i<S.size)(hi:i≤S.size)(cB:i-k≤bC (S.data.toList.drop k)):k+bC (S.data.toList.drop k)=i:=by have aa:=r5 (S.data.toList.drop k);rw[gZ,cR] at aa;omega
theorem UC{X:Nat}(h:i<S.size)(dp:S[i].toNat=X)(b:Bool)(af:fi S[i]=b):(decide (48≤(X:Int))&&decide ((X:Int)≤57))=b:=by
 rw[←af,←dp];unfold fi
 congr 1<;>(rw[decide_eq_decide];omega)
theorem aby{R:Nat}(hS:S.size≤300)(w:bTo)(aQ:aw w R 0 (au S))(k:Nat)(ab:k≤S.size)(a:Int)(ha:J (a=(k:Int)))(m:Nat)(hm:J (k+bC (S.data.toList.drop k)=m)):
  Calls Tryz.prog 335 #[dv R 0,I a] w fun e w'=>e=bb (I (m:Int))∧w=w':=by
 obtain rfl:=ha.out;go_enter Tryz.func335,Tryz.ntmps335;go_wp2_with fail
 go_loop [1] (fun a=>∃i:Nat,k≤i∧i≤S.size∧a=I (i:Int)∧J (i-k≤bC (S.data.toList.drop k))) (fun a=>S.size -(intOf a).toNat)
 case atStart=>exact⟨k,by omega,by omega,rfl,by show k-k≤_;omega⟩
 case round=>
  obtain⟨i,rM,Lx,rfl,oF⟩:=hrel;by_cases b0:i<S.size
  ·obtain⟨X,dp,wX⟩:=H7 b0;obtain⟨b,af⟩:=az (fi S[i]);have aH:J ((decide (48≤(X:Int))&&decide ((X:Int)≤57))=b):=UC b0 dp b af;have UD:((S[i].toNat:Nat):Int)=(X:Int):=(by rw[dp]);have a1:J ((b=true→i+1-k≤bC (S.data.toList.drop k))∧(b=false→k+bC (S.data.toList.drop k)=i)):=⟨fun h=>abv rM b0 oF.out (af.trans h),fun h=>abw rM b0 oF.out (af.trans h)⟩;clear dp af;cases b with
   |true=>
    go_wp2_with fail;go_fit (H6 _ true aH _);rintro e w' ⟨rfl,rfl⟩;go_wp2_with fail;go_round
    case rel=>exact⟨i+1,by omega,by omega,by go_num,a1.out.1 trivial⟩
    case measure=>simp[intOf];omega
   |false=>
    have bB:J (((i:Nat):Int)=(m:Int)):=(by show _=_;rw[←hm.out,a1.out.2 rfl]);go_wp2_with fail;go_fit (H6 _ false aH _);rintro e w' ⟨rfl,rfl⟩;go_wp2_with fail;go_ret;exact⟨Fy bB.out,rfl⟩
  ·have bB:J (((i:Nat):Int)=(m:Int)):=(by show _=_;rw[←hm.out,abx rM b0 Lx oF.out]);go_wp2_with fail;go_ret;exact⟨Fy bB.out,rfl⟩
theorem al6(l:bk)(c:UInt8):r6 (l++[c])=min (10 *r6 l+(c.toNat-48)) 100:=by simp[r6]
theorem al7{m X:Nat}(ab:k≤i)(h:i<S.size)(dp:S[i].toNat=X)(hm:r6 ((S.data.toList.drop k).take (i-k))=m):r6 ((S.data.toList.drop k).take (i+1-k))=min (10 *m+(X-48)) 100:=by obtain⟨j,rfl⟩:∃j,i=k+j:=⟨i-k,by omega⟩;obtain⟨aa,ah⟩:=drop_at h;rw[show k+j-k=j by omega] at hm;rw[show k+j+1-k=j+1 by omega,x4 aa,al6,hm,ah,dp]
theorem abz{r:bk}(h:S.data.toList.drop k=r)(hne:r≠[]):k<S.size∧S.data.toList.drop (k+1)=r.drop 1:=by have aa:=gb List.length h;rw[gZ,cR] at aa;have ah:=List.length_pos_iff.2 hne;refine⟨by omega,?_⟩;rw[←h,pd]
theorem UE(h:k<S.size):hd (S.data.toList.drop k)=S[k]:=by
 have aj:k<S.data.toList.length:=by rw[cR];exact h
 rw[l3 aj];rfl
theorem al8{w0:bTo}{R deep:Nat}{st:dU}(hS:S.size≤300)(w:bTo)(h:qR w0 S R deep st w)(he:st.e=0)(aj:st.ops.length≤1000)(pY:hd st.r=36):
  Calls Tryz.prog 329 #[dv R 0] w (Left w0 S R deep (ll st)):=by
 obtain⟨k,v,h⟩:=h;have hne:st.r≠[]:=by intro e;rw[e] at pY;exact absurd pY (by decide)
 obtain⟨AP,hx⟩:=abz h.rest hne;have H:=U h;obtain⟨aJ,aI,c2,c3,bF⟩:=h.cells;have f4:=h.frozen 4;have cV:=U hx;have bm:=U he;clear h hx he pY hne;go_enter Tryz.func329,Tryz.ntmps329;go_wp2_with fail
 go_loop [2,3] (fun a n=>∃i m:Nat,k+1≤i∧i≤S.size∧m≤100∧a=I (i:Int)∧n=I (m:Int)∧J (i -(k+1)≤bC (S.data.toList.drop (k+1))∧r6 ((S.data.toList.drop (k+1)).take (i -(k+1)))=m)) (fun a _=>S.size -(intOf a).toNat)
 case atStart=>exact⟨k+1,0,by omega,by omega,by omega,by go_num,rfl,by show k+1 -(k+1)≤_;omega,by rw[Lw];rfl⟩
 case round=>
  obtain⟨i,m,rM,Lx,hm,rfl,rfl,oF⟩:=hrel;by_cases rH:i<S.size∧fi (S.data.toList.getD i 0)=true
  ·obtain⟨b0,abA⟩:=rH;have Dr:fi S[i]=true:=(by have:S.data.toList.getD i 0=S[i]:=(by rw[yt,jH (by rw[cR];exact b0)];rfl);rw[←this];exact abA);obtain⟨X,dp,wX⟩:=H7 b0;have aH:J ((decide (48≤(X:Int))&&decide ((X:Int)≤57))=true):=UC b0 dp true Dr;have UD:((S[i].toNat:Nat):Int)=(X:Int):=(by rw[dp]);have al9:48≤X∧X≤57:=(by rw[←dp];exact (q7 _).1 Dr);obtain⟨aws,awt⟩:=al9;obtain⟨V,nQ⟩:∃V:Nat,min (10 *m+(X-48)) 100=V:=⟨_,rfl⟩;have awu:min (10 *(m:Int)+((X:Int)-48)) 100=(V:Int):=(by omega);have ama:V≤100:=(by omega);have a1:J (i+1 -(k+1)≤bC (S.data.toList.drop (k+1))∧r6 ((S.data.toList.drop (k+1)).take (i+1 -(k+1)))=V):=⟨abv rM b0 oF.out.1 Dr,by rw[al7 rM b0 dp oF.out.2,nQ]⟩;clear dp nQ abA Dr;go_wp2_with fail;go_fit (H6 _ true aH _);rintro e w' ⟨rfl,rfl⟩;go_wp2_with fail;go_round
   case rel=>exact⟨i+1,V,by omega,by omega,ama,by go_num,rfl,a1⟩
   case measure=>simp[intOf];omega
  ·by_cases b0:i<S.size
   ·obtain⟨X,dp,wX⟩:=H7 b0;have Dr:fi S[i]=false:=(by rw[y8];intro gQ;apply rH;refine⟨b0,?_⟩;have:S.data.toList.getD i 0=S[i]:=(by rw[yt,jH (by rw[cR];exact b0)];rfl);rw[this];exact gQ);have aH:J ((decide (48≤(X:Int))&&decide ((X:Int)≤57))=false):=UC b0 dp false Dr;have UD:((S[i].toNat:Nat):Int)=(X:Int):=(by rw[dp]);have Ds:=abw rM b0 oF.out.1 Dr;have aE:J (k+1+bC (S.data.toList.drop (k+1))=i∧r6 ((S.data.toList.drop (k+1)).take (bC (S.data.toList.drop (k+1))))=m):=⟨Ds,by rw[←oF.out.2];congr 2;omega⟩;clear dp Dr rH Ds;go_wp2_with fail;go_fit (H6 _ false aH _);rintro e w' ⟨rfl,rfl⟩;go_wp2_with fail;by_cases kZ:(m:Int)<1
    ·have cd:J (ll st=⟨st.r,st.ops,3⟩):=by show _=_;unfold ll;rw[←cV.out,aE.out.2,aT (.inl (by omega))]
     go_quiet (fail)
     go_wp2_with fail;refine dH (nL rfl _ _ _) rfl ?_;exact⟨rfl,by rw[cd.out];exact⟨k,v,(H.out.drewN _).err 3⟩⟩
    ·by_cases iJ:99<(m:Int)
     ·have cd:J (ll st=⟨st.r,st.ops,3⟩):=by show _=_;unfold ll;rw[←cV.out,aE.out.2,aT (.inr (.inl (by omega)))]
      go_quiet (fail)
      go_wp2_with fail;refine dH (nL rfl _ _ _) rfl ?_;exact⟨rfl,by rw[cd.out];exact⟨k,v,(H.out.drewN _).err 3⟩⟩
     ·have eA:k+1<S.size:=(by apply xv;intro hn;have aa:=aE.out.2;rw[n7 (by rw[cR];omega)] at aa;have ah:r6 (List.take (bC []) [])=0:=rfl;omega);obtain⟨Y,ih,amb⟩:=H7 eA;have amc:((S[k+1].toNat:Nat):Int)=(Y:Int):=(by rw[ih]);have aF:hd (st.r.drop 1)=S[k+1]:=(by rw[←cV.out];exact UE eA);by_cases ja:Y=48
      ·have t48:((Y:Int)==48)=true:=(by rw[ja];rfl);have cd:J (ll st=⟨st.r,st.ops,3⟩):=(by show _=_;unfold ll;rw[aT (.inr (.inr (by rw[aF];apply UInt8.toNat_inj.1;rw[ih,ja];rfl)))]);clear aF ih ja
       go_quiet (fail)
       go_wp2_with fail;refine dH (nL rfl _ _ _) rfl ?_;exact⟨rfl,by rw[cd.out];exact⟨k,v,(H.out.drewN _).err 3⟩⟩
      ·have t48:((Y:Int)==48)=false:=by simp;omega
       have cd:J (ll st=⟨(st.r.drop 1).drop (bC (st.r.drop 1)),st.ops++[(2,(m:Int))],0⟩∧put st 2 (m:Int)=⟨st.r,st.ops++[(2,(m:Int))],0⟩∧S.data.toList.drop i=(st.r.drop 1).drop (bC (st.r.drop 1))):=by
        refine⟨?_,by unfold put;rw[aT bm.out],by rw[←cV.out,pd,aE.out.1]⟩;unfold ll;rw[←cV.out,aE.out.2,aK];rintro (h|h|h)
        ·omega
        ·omega
        ·rw[cV.out,aF] at h;apply ja;rw[←ih,h];rfl
       clear aF ih ja
       go_quiet (fail)
       go_wp2_with fail;go_fit (yj _ (H.out.drewN _).any aj 2 (m:Int));rintro e w' ⟨rfl,tM,v',fy⟩;have BA:=U fy;obtain⟨d0,d1,d2,d3,d4⟩:=fy.cells;have f1:=fy.frozen 1;clear fy aJ aI c2 c3 bF f4;go_wp2_with fail;go_end0;refine⟨rfl,i,v',?_⟩;have k9:=BA.out.step Lx rfl;rw[cd.out.2.1,cd.out.2.2] at k9;rw[cd.out.1];exact k9
   ·have Ds:=abx rM b0 Lx oF.out.1;have aE:J (k+1+bC (S.data.toList.drop (k+1))=i∧r6 ((S.data.toList.drop (k+1)).take (bC (S.data.toList.drop (k+1))))=m):=⟨Ds,by rw[←oF.out.2];congr 2;omega⟩;clear rH Ds;go_wp2_with fail;by_cases kZ:(m:Int)<1
    ·have cd:J (ll st=⟨st.r,st.ops,3⟩):=by show _=_;unfold ll;rw[←cV.out,aE.out.2,aT (.inl (by omega))]
     go_quiet (fail)
     go_wp2_with fail;refine dH (nL rfl _ _ _) rfl ?_;exact⟨rfl,by rw[cd.out];exact⟨k,v,(H.out.drewN _).err 3⟩⟩
    ·by_cases iJ:99<(m:Int)
     ·have cd:J (ll st=⟨st.r,st.ops,3⟩):=by show _=_;unfold ll;rw[←cV.out,aE.out.2,aT (.inr (.inl (by omega)))]
      go_quiet (fail)
      go_wp2_with fail;refine dH (nL rfl _ _ _) rfl ?_;exact⟨rfl,by rw[cd.out];exact⟨k,v,(H.out.drewN _).err 3⟩⟩
     ·have eA:k+1<S.size:=(by apply xv;intro hn;have aa:=aE.out.2;rw[n7 (by rw[cR];omega)] at aa;have ah:r6 (List.take (bC []) [])=0:=rfl;omega);obtain⟨Y,ih,amb⟩:=H7 eA;have amc:((S[k+1].toNat:Nat):Int)=(Y:Int):=(by rw[ih]);have aF:hd (st.r.drop 1)=S[k+1]:=(by rw[←cV.out];exact UE eA);by_cases ja:Y=48
      ·have t48:((Y:Int)==48)=true:=(by rw[ja];rfl);have cd:J (ll st=⟨st.r,st.ops,3⟩):=(by show _=_;unfold ll;rw[aT (.inr (.inr (by rw[aF];apply UInt8.toNat_inj.1;rw[ih,ja];rfl)))]);clear aF ih ja
       go_quiet (fail)
       go_wp2_with fail;refine dH (nL rfl _ _ _) rfl ?_;exact⟨rfl,by rw[cd.out];exact⟨k,v,(H.out.drewN _).err 3⟩⟩
      ·have t48:((Y:Int)==48)=false:=by simp;omega
       have cd:J (ll st=⟨(st.r.drop 1).drop (bC (st.r.drop 1)),st.ops++[(2,(m:Int))],0⟩∧put st 2 (m:Int)=⟨st.r,st.ops++[(2,(m:Int))],0⟩∧S.data.toList.drop i=(st.r.drop 1).drop (bC (st.r.drop 1))):=by
        refine⟨?_,by unfold put;rw[aT bm.out],by rw[←cV.out,pd,aE.out.1]⟩;unfold ll;rw[←cV.out,aE.out.2,aK];rintro (h|h|h)
        ·omega
        ·omega
        ·rw[cV.out,aF] at h;apply ja;rw[←ih,h];rfl
       clear aF ih ja
       go_quiet (fail)
       go_wp2_with fail;go_fit (yj _ (H.out.drewN _).any aj 2 (m:Int));rintro e w' ⟨rfl,tM,v',fy⟩;have BA:=U fy;obtain⟨d0,d1,d2,d3,d4⟩:=fy.cells;have f1:=fy.frozen 1;clear fy aJ aI c2 c3 bF f4;go_wp2_with fail;go_end0;refine⟨rfl,i,v',?_⟩;have k9:=BA.out.step Lx rfl;rw[cd.out.2.1,cd.out.2.2] at k9;rw[cd.out.1];exact k9
end rG
namespace rG
open Go.RowKit kG pH xy Mem qk
theorem UF(s:aia)(v:Int)(b:Bool)(aS:J ((dec s.data.toList).getD 0=v∧(dec s.data.toList).isSome=b))(hs:s.size≤maxLen)(w:bTo):
  Calls Tryz.prog 136 #[au s] w fun e w'=>e=bb (.tuple #[I v,ai b])∧w'=w:=by
 obtain⟨aa,ah⟩:=aS.out;subst aa;subst ah;exact (aa3 s w hs).mono fun _ _ h=>⟨h.1,h.2.symm⟩
theorem abB(S:aia)(k m:Nat):(S.extract k m).data.toList=(S.data.toList.drop k).take (m-k):=by rw[Da]
variable{S:aia}{k R deep d:Nat}
theorem amd{m1:Nat}(kZ:k+bC (S.data.toList.drop k)=m1):
  (¬(m1<S.size∧hd (S.data.toList.drop m1)=46)→k+n8 (S.data.toList.drop k)=m1)∧(hd (S.data.toList.drop m1)=46→k+n8 (S.data.toList.drop k)=m1+1+bC (S.data.toList.drop (m1+1))):=by
 have aN:(S.data.toList.drop k).drop (bC (S.data.toList.drop k))=S.data.toList.drop m1:=by rw[pd,kZ]
 have aR:(S.data.toList.drop k).drop (bC (S.data.toList.drop k)+1)=S.data.toList.drop (m1+1):=by rw[pd];congr 1;omega
 unfold n8;rw[aN,aR];constructor
 ·intro h;rw[aK]
  ·exact kZ
  ·intro lp;apply h;refine⟨?_,lp⟩;apply xv;intro hn;rw[n7 (by rw[cR];omega)] at lp;exact absurd lp (by decide)
 ·intro h;rw[aT h];omega
theorem abC(S:aia)(k:Nat)(ab:k≤S.size):k+bC (S.data.toList.drop k)≤S.size:=by have aa:=r5 (S.data.toList.drop k);rw[gZ,cR] at aa;omega
variable{w0 w:bTo}{st goal:dU}
theorem FD(hS:S.size≤300)(w:bTo)(h:qR w0 S R deep st w)(he:st.e=0)(aj:st.ops.length≤1000):
  Calls Tryz.prog 331 #[dv R 0] w (Left w0 S R deep (jP st)):=by
 obtain⟨k,v,h⟩:=h;have ab:=h.vm;have H:=U h;obtain⟨aJ,aI,c2,c3,bF⟩:=h.cells;have f1:=h.frozen 1;have f4:=h.frozen 4;have bm:=U he;obtain⟨m1,kZ⟩:=az (k+bC (S.data.toList.drop k));have lx:=U kZ;have awv:m1≤S.size:=by rw[←kZ];exact abC S k ab
 have aww:k≤m1:=by omega
 obtain⟨m,hm⟩:=az (k+n8 (S.data.toList.drop k));have bB:=U hm;have hne:=amd kZ
 have Ly:k≤m∧m≤S.size:=by
  refine⟨by omega,?_⟩;by_cases lp:m1<S.size∧hd (S.data.toList.drop m1)=46
  ·have aa:=hne.2 lp.2;have ah:=abC S (m1+1) (by omega);omega
  ·have aa:=hne.1 lp;omega
 obtain⟨zd,Ly⟩:=Ly;have k8:=U hne;clear h he kZ hm hne;obtain⟨z,bx⟩:=az ((dec (S.extract k m).data.toList).getD 0);obtain⟨b,af⟩:=az ((dec (S.extract k m).data.toList).isSome);have bL:J ((dec (S.extract k m).data.toList).getD 0=z∧(dec (S.extract k m).data.toList).isSome=b):=⟨bx,af⟩;have lS:(S.extract k m).size≤300:=by have aa:=gb List.length (abB S k m);rw[cR,mf] at aa;omega
 have H8:J ((S.extract k m).data.toList=st.r.take (n8 st.r)):=by
  show _=_;rw[abB,H.out.rest]
  congr 1
  have:=bB.out;rw[H.out.rest] at this;omega
 clear bx af;have i0:(0:Int)≤(k:Int):=by omega
 have iN:(k:Int)≤(m:Int):=by omega
 have i2:(m:Int)≤(S.size:Int):=by omega
 go_enter Tryz.func331,Tryz.ntmps331;go_wp2_with fail;go_fit (aby hS _ aJ k ab _ (U (Eq.refl _)) m1 lx);rintro e w' ⟨rfl,rfl⟩;by_cases b0:m1<S.size
 ·obtain⟨X,dp,wX⟩:=H7 b0;have UD:((S[m1].toNat:Nat):Int)=(X:Int):=(by rw[dp]);have aF:=UE b0;by_cases lp:X=46
  ·have t46:((X:Int)==46)=true:=(by rw[lp];rfl);have ame:J (m1+1+bC (S.data.toList.drop (m1+1))=m):=(by show _=_;rw[←bB.out];exact (k8.out.2 (by rw[aF];apply UInt8.toNat_inj.1;rw[dp,lp];rfl)).symm);have amf:J ((m1:Int)+1=((m1+1:Nat):Int)):=(by show _=_;omega);clear dp aF lp;go_wp2_with fail;go_fit (aby hS _ aJ (m1+1) (by omega) _ amf m ame);rintro e w' ⟨rfl,rfl⟩;go_wp2_with fail
   go_quiet ((go_at_call 136;exact ra (UF _ z b bL (by unfold maxLen;omega) _)))
   cases b with
   |false=>
    have cd:J (jP st=⟨st.r,st.ops,3⟩):=by
     show _=_;have aa:=bL.out.2;rw[H8.out] at aa;unfold jP;cases gQ:dec (st.r.take (n8 st.r)) with
     |none=>rfl
     |some n=>rw[gQ] at aa;cases aa
    go_wp2_with fail;refine dH (nL rfl _ _ _) rfl ?_;exact⟨rfl,by rw[cd.out];exact⟨k,v,(H.out.drewN _).err 3⟩⟩
   |true=>
    have cd:J (jP st=⟨st.r.drop (n8 st.r),st.ops++[(1,z)],0⟩∧put st 1 z=⟨st.r,st.ops++[(1,z)],0⟩∧S.data.toList.drop m=st.r.drop (n8 st.r)):=by
     refine⟨?_,by unfold put;rw[aT bm.out],by rw[←bB.out,H.out.rest,←pd,H.out.rest]⟩;have aa:=bL.out;rw[H8.out] at aa;unfold jP;cases gQ:dec (st.r.take (n8 st.r)) with
     |none=>rw[gQ] at aa;cases aa.2
     |some n=>rw[gQ] at aa;have ah:n=z:=aa.1;rw[ah]
    go_wp2_with fail;go_fit (yj _ (H.out.drewN _).any aj 1 z);rintro e w' ⟨rfl,tM,v',fy⟩;have BA:=U fy;obtain⟨d0,d1,d2,d3,d4⟩:=fy.cells;have g1:=fy.frozen 1;clear fy aJ aI c2 c3 bF f4 f1;go_wp2_with fail;go_end0;refine⟨rfl,m,v',?_⟩;have k9:=BA.out.step Ly rfl;rw[cd.out.2.1,cd.out.2.2] at k9;rw[cd.out.1];exact k9
  ·have t46:((X:Int)==46)=false:=(by simp;omega);obtain rfl:m1=m:=(by rw[←bB.out];refine (k8.out.1 ?_).symm;rintro⟨_,h⟩;rw[aF] at h;apply lp;rw[←dp,h];rfl);clear dp aF lp;go_wp2_with fail
   go_quiet ((go_at_call 136;exact ra (UF _ z b bL (by unfold maxLen;omega) _)))
   cases b with
   |false=>
    have cd:J (jP st=⟨st.r,st.ops,3⟩):=by
     show _=_;have aa:=bL.out.2;rw[H8.out] at aa;unfold jP;cases gQ:dec (st.r.take (n8 st.r)) with
     |none=>rfl
     |some n=>rw[gQ] at aa;cases aa
    go_wp2_with fail;refine dH (nL rfl _ _ _) rfl ?_;exact⟨rfl,by rw[cd.out];exact⟨k,v,(H.out.drewN _).err 3⟩⟩
   |true=>
    have cd:J (jP st=⟨st.r.drop (n8 st.r),st.ops++[(1,z)],0⟩∧put st 1 z=⟨st.r,st.ops++[(1,z)],0⟩∧S.data.toList.drop m1=st.r.drop (n8 st.r)):=by
     refine⟨?_,by unfold put;rw[aT bm.out],by rw[←bB.out,H.out.rest,←pd,H.out.rest]⟩;have aa:=bL.out;rw[H8.out] at aa;unfold jP;cases gQ:dec (st.r.take (n8 st.r)) with
     |none=>rw[gQ] at aa;cases aa.2
     |some n=>rw[gQ] at aa;have ah:n=z:=aa.1;rw[ah]
    go_wp2_with fail;go_fit (yj _ (H.out.drewN _).any aj 1 z);rintro e w' ⟨rfl,tM,v',fy⟩;have BA:=U fy;obtain⟨d0,d1,d2,d3,d4⟩:=fy.cells;have g1:=fy.frozen 1;clear fy aJ aI c2 c3 bF f4 f1;go_wp2_with fail;go_end0;refine⟨rfl,m1,v',?_⟩;have k9:=BA.out.step Ly rfl;rw[cd.out.2.1,cd.out.2.2] at k9;rw[cd.out.1];exact k9
 ·obtain rfl:m1=m:=(by rw[←bB.out];exact (k8.out.1 (fun h=>b0 h.1)).symm);go_wp2_with fail
  go_quiet ((go_at_call 136;exact ra (UF _ z b bL (by unfold maxLen;omega) _)))
  cases b with
  |false=>
   have cd:J (jP st=⟨st.r,st.ops,3⟩):=by
    show _=_;have aa:=bL.out.2;rw[H8.out] at aa;unfold jP;cases gQ:dec (st.r.take (n8 st.r)) with
    |none=>rfl
    |some n=>rw[gQ] at aa;cases aa
   go_wp2_with fail;refine dH (nL rfl _ _ _) rfl ?_;exact⟨rfl,by rw[cd.out];exact⟨k,v,(H.out.drewN _).err 3⟩⟩
  |true=>
   have cd:J (jP st=⟨st.r.drop (n8 st.r),st.ops++[(1,z)],0⟩∧put st 1 z=⟨st.r,st.ops++[(1,z)],0⟩∧S.data.toList.drop m1=st.r.drop (n8 st.r)):=by
    refine⟨?_,by unfold put;rw[aT bm.out],by rw[←bB.out,H.out.rest,←pd,H.out.rest]⟩;have aa:=bL.out;rw[H8.out] at aa;unfold jP;cases gQ:dec (st.r.take (n8 st.r)) with
    |none=>rw[gQ] at aa;cases aa.2
    |some n=>rw[gQ] at aa;have ah:n=z:=aa.1;rw[ah]
   go_wp2_with fail;go_fit (yj _ (H.out.drewN _).any aj 1 z);rintro e w' ⟨rfl,tM,v',fy⟩;have BA:=U fy;obtain⟨d0,d1,d2,d3,d4⟩:=fy.cells;have g1:=fy.frozen 1;clear fy aJ aI c2 c3 bF f4 f1;go_wp2_with fail;go_end0;refine⟨rfl,m1,v',?_⟩;have k9:=BA.out.step Ly rfl;rw[cd.out.2.1,cd.out.2.2] at k9;rw[cd.out.1];exact k9
def tW(R:Nat)(w:bTo):Nat:=match w.cell? (ag R 1) with|some (.int _ q)=>q.toNat|_=>0
variable{v:ada}
theorem z'(h:iu w0 S R deep st k v w):tW R w=k:=by unfold tW;rw[h.cells.2.1];simp
def FE(d:Nat):Prop:=∀(w0:bTo) (S:aia) (R deep:Nat) (st:dU) (w:bTo),S.size≤300→deep+d=30→qR w0 S R deep st w→st.e=0→st.ops.length+st.r.length≤300→
 Calls Tryz.prog 318 #[dv R 0] w (Left w0 S R deep (fL d st))
def PR(d:Nat):Prop:=∀(w0:bTo) (S:aia) (R deep:Nat) (st:dU) (w:bTo),S.size≤300→deep+d=30→qR w0 S R deep st w→st.e=0→st.ops.length+st.r.length≤300→
 Calls Tryz.prog 289 #[dv R 0] w (Left w0 S R deep (r7 (fL d) st))
def Lz(d:Nat):Prop:=∀(w0:bTo) (S:aia) (R deep:Nat) (st:dU) (w:bTo),S.size≤300→deep+d=30→qR w0 S R deep st w→st.e=0→st.ops.length+st.r.length≤300→
 Calls Tryz.prog 255 #[dv R 0] w (Left w0 S R deep (vV (fL d) st))
theorem FE.use(hF:FE d)(hS:S.size≤300)(hd:deep+d=30)(h:qR w0 S R deep st w)(he:st.e=0)(hc:st.ops.length+st.r.length≤300):
 Calls Tryz.prog 318 #[dv R 0] w (Left w0 S R deep (fL d st)):=hF w0 S R deep st w hS hd h he hc
theorem PR.use(hF:PR d)(hS:S.size≤300)(hd:deep+d=30)(h:qR w0 S R deep st w)(he:st.e=0)(hc:st.ops.length+st.r.length≤300):
 Calls Tryz.prog 289 #[dv R 0] w (Left w0 S R deep (r7 (fL d) st)):=hF w0 S R deep st w hS hd h he hc
theorem Lz.use(hF:Lz d)(hS:S.size≤300)(hd:deep+d=30)(h:qR w0 S R deep st w)(he:st.e=0)(hc:st.ops.length+st.r.length≤300):
 Calls Tryz.prog 255 #[dv R 0] w (Left w0 S R deep (vV (fL d) st)):=hF w0 S R deep st w hS hd h he hc
def FF(op:UInt8→Option Nat)(f:dU→dU)(goal:dU)(st:dU)(K:Nat):Prop:=goal=tk op f K st∧st.r.length<K∧st.ops.length+st.r.length≤300
theorem PS{op:UInt8→Option Nat}{f:dU→dU}{K:Nat}(h:FF op f goal st K)(hs:st.e=0→op (hd st.r)=none):goal=st:=by rw[h.1,aik _ hs]
theorem LA{op:UInt8→Option Nat}(aQ:op 0=none){f:dU→dU}(hf:Cl f)(gQ:Down f){K q:Nat}(h:FF op f goal st K)(he:st.e=0)(aC:op (hd st.r)=some q):
  FF op f goal (put (f ⟨st.r.drop 1,st.ops,0⟩) q 0) (K-1)∧(put (f ⟨st.r.drop 1,st.ops,0⟩) q 0).r.length<st.r.length∧st.r≠[]:=by
 have hne:=Yl aQ aC;have hp:=List.length_pos_iff.2 hne;have aa:=gQ ⟨st.r.drop 1,st.ops,0⟩;have ah:=hf ⟨st.r.drop 1,st.ops,0⟩;have ax:=Sb (f ⟨st.r.drop 1,st.ops,0⟩) q 0;simp only[gZ] at aa ah;have bg:=h.2.1;have b7:=h.2.2;obtain⟨awx,rfl⟩:∃j,K=j+1:=⟨K-1,by omega⟩;refine⟨⟨?_,?_,?_⟩,?_,hne⟩
 ·rw[h.1,ail _ he aC];rfl
 ·rw[vX];omega
 ·rw[vX];omega
 ·rw[vX];omega
theorem iu.BB(h:iu w0 S R deep st k v w)(hne:st.r≠[])(he:st.e=0):iu w0 S R deep ⟨st.r.drop 1,st.ops,0⟩ (k+1) v (w.setCell (ag R 1) (I ((k:Int)+1))):=by obtain⟨aa,ah⟩:=abz h.rest hne;have:=h.step (m:=k+1) (by omega) ah;rw[he] at this;exact this
variable{r:bk}{c:UInt8}
theorem oZ(h:hd r=c):vn r=(c.toNat:Int):=by unfold vn;rw[h]
theorem yu(h:hd r≠c):(vn r==(c.toNat:Int))=false:=by rw[kO];unfold vn;intro e;apply h;apply UInt8.toNat_inj.1;omega
theorem abD(d:Nat)(hF:FE d):PR d:=by
 intro w0 S R deep st w hS qi h he hZ;go_enter Tryz.func289,Tryz.ntmps289;go_wp2_with fail;go_fit (hF.use hS qi h he hZ);rintro e bE ⟨rfl,aa⟩;have dR:J (FF ln (fL d) (r7 (fL d) st) (fL d st) (st.r.length+1)):=⟨rfl,by have:=Ck d st;omega,by have:=tl d st;omega⟩;have br:=U aa;clear h he hZ aa;go_wp2_with fail
 go_loopw [2] (fun _ wr=>∃(dy:dU) (K:Nat),J (qR w0 S R deep dy wr)∧J (FF ln (fL d) (r7 (fL d) st) dy K)) (fun _ wr=>S.size-tW R wr)
 case atStart=>exact⟨_,_,br,dR⟩
 case round=>
  obtain⟨dy,K,vo,sN⟩:=hrel;clear br dR;obtain⟨k,v,h⟩:=vo.out;have H:=U h;obtain⟨aJ,aI,c2,c3,bF⟩:=h.cells;have f1:=h.frozen 1;have UG:k≤300:=dX h.vm hS;clear h;by_cases he:dy.e=0
  ·have FG:((dy.e:Int)==0)=true:=(by rw[he];rfl);have bm:=U he;clear he;obtain⟨c,hc⟩:=az (vn dy.r);have bq:=U hc;by_cases H9:hd dy.r=120
   ·have t120:(c==120)=true:=(by rw[←hc,oZ H9];rfl);have aH:=H9;have a7:J (ln (hd dy.r)=some 5):=(by show _=_;rw[aH];rfl);have aa:=LA rfl (tl d) (Ck d) sN.out bm.out a7.out;have iO:=U aa;have k8:J (dy.r≠[]):=aa.2.2;have j5:J ((⟨dy.r.drop 1,dy.ops,0⟩:dU).ops.length+(⟨dy.r.drop 1,dy.ops,0⟩:dU).r.length≤300):=(by show dy.ops.length+(dy.r.drop 1).length≤300;have:=sN.out.2.2;rw[gZ];omega);have vq:J (((fL d) ⟨dy.r.drop 1,dy.ops,0⟩).ops.length≤1000):=(by show _≤_;have g1:=(tl d) ⟨dy.r.drop 1,dy.ops,0⟩;have g2:=j5.out;omega);clear aH hc H9;clear aa;go_wp2_with fail;go_fit (pI _ H c bq);rintro e w' ⟨dj,rfl,rfl⟩;have a1:=U ((H.out.drewN dj).BB k8.out bm.out).any;go_wp2_with fail;go_fit (hF.use (st:=⟨dy.r.drop 1,dy.ops,0⟩) hS qi a1.out rfl j5.out);rintro e cr ⟨rfl,ah⟩;go_wp2_with fail;go_fit (yj _ ah vq.out 5 0);rintro e dJ ⟨rfl,ax⟩;go_wp2_with fail;have bB:J (S.size-tW R dJ<S.size-tW R wr):=by show _<_;obtain⟨oi,v3,su⟩:=ax;rw[z' su,z' H.out];have g1:=su.len;have g2:=H.out.len;have g3:=iO.out.2.1;have g4:=List.length_pos_iff.2 k8.out;rw[vX] at g1 g3;omega
    go_roundw
    case rel=>exact⟨_,_,ax,iO.out.1⟩
    case measure=>exact bB.out
   ·have t120:(c==120)=false:=(by rw[←hc];exact yu H9);by_cases H':hd dy.r=88
    ·have t88:(c==88)=true:=(by rw[←hc,oZ H'];rfl);have aH:=H';have a7:J (ln (hd dy.r)=some 5):=(by show _=_;rw[aH];rfl);have aa:=LA rfl (tl d) (Ck d) sN.out bm.out a7.out;have iO:=U aa;have k8:J (dy.r≠[]):=aa.2.2;have j5:J ((⟨dy.r.drop 1,dy.ops,0⟩:dU).ops.length+(⟨dy.r.drop 1,dy.ops,0⟩:dU).r.length≤300):=(by show dy.ops.length+(dy.r.drop 1).length≤300;have:=sN.out.2.2;rw[gZ];omega);have vq:J (((fL d) ⟨dy.r.drop 1,dy.ops,0⟩).ops.length≤1000):=(by show _≤_;have g1:=(tl d) ⟨dy.r.drop 1,dy.ops,0⟩;have g2:=j5.out;omega);clear aH hc H';clear aa;go_wp2_with fail;go_fit (pI _ H c bq);rintro e w' ⟨dj,rfl,rfl⟩;have a1:=U ((H.out.drewN dj).BB k8.out bm.out).any;go_wp2_with fail;go_fit (hF.use (st:=⟨dy.r.drop 1,dy.ops,0⟩) hS qi a1.out rfl j5.out);rintro e cr ⟨rfl,ah⟩;go_wp2_with fail;go_fit (yj _ ah vq.out 5 0);rintro e dJ ⟨rfl,ax⟩;go_wp2_with fail;have bB:J (S.size-tW R dJ<S.size-tW R wr):=by show _<_;obtain⟨oi,v3,su⟩:=ax;rw[z' su,z' H.out];have g1:=su.len;have g2:=H.out.len;have g3:=iO.out.2.1;have g4:=List.length_pos_iff.2 k8.out;rw[vX] at g1 g3;omega
     go_roundw
     case rel=>exact⟨_,_,ax,iO.out.1⟩
     case measure=>exact bB.out
    ·have t88:(c==88)=false:=(by rw[←hc];exact yu H');by_cases Ia:hd dy.r=47
     ·have t47:(c==47)=true:=(by rw[←hc,oZ Ia];rfl);have aH:=Ia;have a7:J (ln (hd dy.r)=some 6):=(by show _=_;rw[aH];rfl);have aa:=LA rfl (tl d) (Ck d) sN.out bm.out a7.out;have iO:=U aa;have k8:J (dy.r≠[]):=aa.2.2;have j5:J ((⟨dy.r.drop 1,dy.ops,0⟩:dU).ops.length+(⟨dy.r.drop 1,dy.ops,0⟩:dU).r.length≤300):=(by show dy.ops.length+(dy.r.drop 1).length≤300;have:=sN.out.2.2;rw[gZ];omega);have vq:J (((fL d) ⟨dy.r.drop 1,dy.ops,0⟩).ops.length≤1000):=(by show _≤_;have g1:=(tl d) ⟨dy.r.drop 1,dy.ops,0⟩;have g2:=j5.out;omega);clear aH hc Ia;clear aa;go_wp2_with fail;go_fit (pI _ H c bq);rintro e w' ⟨dj,rfl,rfl⟩;have a1:=U ((H.out.drewN dj).BB k8.out bm.out).any;go_wp2_with fail;go_fit (hF.use (st:=⟨dy.r.drop 1,dy.ops,0⟩) hS qi a1.out rfl j5.out);rintro e cr ⟨rfl,ah⟩;go_wp2_with fail;go_fit (yj _ ah vq.out 6 0);rintro e dJ ⟨rfl,ax⟩;go_wp2_with fail;have bB:J (S.size-tW R dJ<S.size-tW R wr):=by show _<_;obtain⟨oi,v3,su⟩:=ax;rw[z' su,z' H.out];have g1:=su.len;have g2:=H.out.len;have g3:=iO.out.2.1;have g4:=List.length_pos_iff.2 k8.out;rw[vX] at g1 g3;omega
      go_roundw
      case rel=>exact⟨_,_,ax,iO.out.1⟩
      case measure=>exact bB.out
     ·have t47:(c==47)=false:=(by rw[←hc];exact yu Ia);have cI:J (r7 (fL d) st=dy):=PS sN.out (fun _=>by unfold ln;simp[H9,H',Ia]);clear hc H9 H' Ia;go_wp2_with fail;go_fit (pI _ H c bq);rintro e w' ⟨dj,rfl,rfl⟩;go_wp2_with fail;refine dH (nL rfl _ _ _) rfl ?_;exact⟨rfl,by rw[cI.out];exact (H.out.drewN dj).any⟩
  ·have FG:((dy.e:Int)==0)=false:=(by simp;omega);have cI:J (r7 (fL d) st=dy):=PS sN.out (fun h=>absurd h he);clear he;go_wp2_with fail;go_end0;exact⟨rfl,by rw[cI.out];exact H.out.any⟩
theorem abE(d:Nat)(hF:PR d):Lz d:=by
 intro w0 S R deep st w hS qi h he hZ;go_enter Tryz.func255,Tryz.ntmps255;go_wp2_with fail;go_fit (hF.use hS qi h he hZ);rintro e bE ⟨rfl,aa⟩;have dR:J (FF Ej (r7 (fL d)) (vV (fL d) st) (r7 (fL d) st) (st.r.length+1)):=⟨rfl,by have:=JS (Ck d) st;omega,by have:=Ek (tl d) st;omega⟩;have br:=U aa;clear h he hZ aa;go_wp2_with fail
 go_loopw [2] (fun _ wr=>∃(dy:dU) (K:Nat),J (qR w0 S R deep dy wr)∧J (FF Ej (r7 (fL d)) (vV (fL d) st) dy K)) (fun _ wr=>S.size-tW R wr)
 case atStart=>exact⟨_,_,br,dR⟩
 case round=>
  obtain⟨dy,K,vo,sN⟩:=hrel;clear br dR;obtain⟨k,v,h⟩:=vo.out;have H:=U h;obtain⟨aJ,aI,c2,c3,bF⟩:=h.cells;have f1:=h.frozen 1;have UG:k≤300:=dX h.vm hS;clear h;by_cases he:dy.e=0
  ·have FG:((dy.e:Int)==0)=true:=(by rw[he];rfl);have bm:=U he;clear he;obtain⟨c,hc⟩:=az (vn dy.r);have bq:=U hc;by_cases Ib:hd dy.r=43
   ·have t43:(c==43)=true:=(by rw[←hc,oZ Ib];rfl);have aH:=Ib;have a7:J (Ej (hd dy.r)=some 3):=(by show _=_;rw[aH];rfl);have aa:=LA rfl (Ek (tl d)) (JS (Ck d)) sN.out bm.out a7.out;have iO:=U aa;have k8:J (dy.r≠[]):=aa.2.2;have j5:J ((⟨dy.r.drop 1,dy.ops,0⟩:dU).ops.length+(⟨dy.r.drop 1,dy.ops,0⟩:dU).r.length≤300):=(by show dy.ops.length+(dy.r.drop 1).length≤300;have:=sN.out.2.2;rw[gZ];omega);have vq:J (((r7 (fL d)) ⟨dy.r.drop 1,dy.ops,0⟩).ops.length≤1000):=(by show _≤_;have g1:=(Ek (tl d)) ⟨dy.r.drop 1,dy.ops,0⟩;have g2:=j5.out;omega);clear aH hc Ib;clear aa;go_wp2_with fail;go_fit (pI _ H c bq);rintro e w' ⟨dj,rfl,rfl⟩;have a1:=U ((H.out.drewN dj).BB k8.out bm.out).any;go_wp2_with fail;go_fit (hF.use (st:=⟨dy.r.drop 1,dy.ops,0⟩) hS qi a1.out rfl j5.out);rintro e cr ⟨rfl,ah⟩;go_wp2_with fail;go_fit (yj _ ah vq.out 3 0);rintro e dJ ⟨rfl,ax⟩;go_wp2_with fail;have bB:J (S.size-tW R dJ<S.size-tW R wr):=by show _<_;obtain⟨oi,v3,su⟩:=ax;rw[z' su,z' H.out];have g1:=su.len;have g2:=H.out.len;have g3:=iO.out.2.1;have g4:=List.length_pos_iff.2 k8.out;rw[vX] at g1 g3;omega
    go_roundw
    case rel=>exact⟨_,_,ax,iO.out.1⟩
    case measure=>exact bB.out
   ·have t43:(c==43)=false:=(by rw[←hc];exact yu Ib);by_cases Ic:hd dy.r=45
    ·have t45:(c==45)=true:=(by rw[←hc,oZ Ic];rfl);have aH:=Ic;have a7:J (Ej (hd dy.r)=some 4):=(by show _=_;rw[aH];rfl);have aa:=LA rfl (Ek (tl d)) (JS (Ck d)) sN.out bm.out a7.out;have iO:=U aa;have k8:J (dy.r≠[]):=aa.2.2;have j5:J ((⟨dy.r.drop 1,dy.ops,0⟩:dU).ops.length+(⟨dy.r.drop 1,dy.ops,0⟩:dU).r.length≤300):=(by show dy.ops.length+(dy.r.drop 1).length≤300;have:=sN.out.2.2;rw[gZ];omega);have vq:J (((r7 (fL d)) ⟨dy.r.drop 1,dy.ops,0⟩).ops.length≤1000):=(by show _≤_;have g1:=(Ek (tl d)) ⟨dy.r.drop 1,dy.ops,0⟩;have g2:=j5.out;omega);clear aH hc Ic;clear aa;go_wp2_with fail;go_fit (pI _ H c bq);rintro e w' ⟨dj,rfl,rfl⟩;have a1:=U ((H.out.drewN dj).BB k8.out bm.out).any;go_wp2_with fail;go_fit (hF.use (st:=⟨dy.r.drop 1,dy.ops,0⟩) hS qi a1.out rfl j5.out);rintro e cr ⟨rfl,ah⟩;go_wp2_with fail;go_fit (yj _ ah vq.out 4 0);rintro e dJ ⟨rfl,ax⟩;go_wp2_with fail;have bB:J (S.size-tW R dJ<S.size-tW R wr):=by show _<_;obtain⟨oi,v3,su⟩:=ax;rw[z' su,z' H.out];have g1:=su.len;have g2:=H.out.len;have g3:=iO.out.2.1;have g4:=List.length_pos_iff.2 k8.out;rw[vX] at g1 g3;omega
     go_roundw
     case rel=>exact⟨_,_,ax,iO.out.1⟩
     case measure=>exact bB.out
    ·have t45:(c==45)=false:=(by rw[←hc];exact yu Ic);have cI:J (vV (fL d) st=dy):=PS sN.out (fun _=>by unfold Ej;simp[Ib,Ic]);clear hc Ib Ic;go_wp2_with fail;go_fit (pI _ H c bq);rintro e w' ⟨dj,rfl,rfl⟩;go_wp2_with fail;refine dH (nL rfl _ _ _) rfl ?_;exact⟨rfl,by rw[cI.out];exact (H.out.drewN dj).any⟩
  ·have FG:((dy.e:Int)==0)=false:=(by simp;omega);have cI:J (vV (fL d) st=dy):=PS sN.out (fun h=>absurd h he);clear he;go_wp2_with fail;go_end0;exact⟨rfl,by rw[cI.out];exact H.out.any⟩
def PT(d:Nat):Prop:=∀(w0:bTo) (S:aia) (R deep:Nat) (st:dU) (w:bTo) (c:UInt8) (C:Int),S.size≤300→deep+d=30→qR w0 S R deep st w→st.e=0→st.ops.length+st.r.length≤300→xz c=true→J (C=(c.toNat:Int))→
 Calls Tryz.prog 328 #[dv R 0,.int .u8 C] w (Left w0 S R deep (r8 (fL d) c st))
theorem PT.use(hF:PT d){C:Int}(hS:S.size≤300)(hd:deep+d=30)(h:qR w0 S R deep st w)(he:st.e=0)(hc:st.ops.length+st.r.length≤300)(hs:xz c=true)(lA:J (C=(c.toNat:Int))):
 Calls Tryz.prog 328 #[dv R 0,.int .u8 C] w (Left w0 S R deep (r8 (fL d) c st)):=hF w0 S R deep st w c C hS hd h he hc hs lA
theorem amg(d:Nat)(hF:FE d)(amh:Lz d):PT d:=by
 intro w0 S R deep st w c C hS qi h he hZ hs lA;rcases Sa hs with rfl|rfl|rfl
 ·obtain rfl:C=43:=lA.out;have cd:J (r8 (fL d) 43 st=fL d st):=(by show _=_;unfold r8;rw[aK (by decide),aK (by decide)]);clear hs lA;go_enter Tryz.func328,Tryz.ntmps328;go_wp2_with fail;go_fit (hF.use hS qi h he hZ);rintro e bE ⟨rfl,aa⟩;go_wp2_with fail;refine dH (nL rfl _ _ _) rfl ?_;exact⟨rfl,by rw[cd.out];exact aa⟩
 ·obtain rfl:C=45:=lA.out;have cd:J (r8 (fL d) 45 st=put (fL d st) 7 0):=(by show _=_;unfold r8;rw[aK (by decide),aT rfl]);have bL:J ((fL d st).ops.length≤1000):=(by show _≤_;have:=tl d st;omega);clear hs lA;go_enter Tryz.func328,Tryz.ntmps328;go_wp2_with fail;go_fit (hF.use hS qi h he hZ);rintro e bE ⟨rfl,aa⟩;go_wp2_with fail;go_fit (yj _ aa bL.out 7 0);rintro e cr ⟨rfl,ah⟩;go_wp2_with fail;refine dH (nL rfl _ _ _) rfl ?_;exact⟨rfl,by rw[cd.out];exact ah⟩
 ·obtain rfl:C=40:=lA.out;obtain⟨s1,k7⟩:=az (vV (fL d) st);have cd:J (r8 (fL d) 40 st=ur s1):=(by show _=_;unfold r8;rw[aT rfl,k7]);have js:=U k7;clear hs lA k7;go_enter Tryz.func328,Tryz.ntmps328;go_wp2_with fail;go_fit (amh.use hS qi h he hZ);rintro e bE ⟨rfl,aa⟩;rw[js.out] at aa;obtain⟨k,v,aa⟩:=aa;have H1:=U aa;obtain⟨aJ,aI,c2,c3,bF⟩:=aa.cells;have f1:=aa.frozen 1;have f4:=aa.frozen 4;have UG:k≤300:=dX aa.vm hS;clear h aa he hZ;by_cases bx:s1.e=0
  ·have FG:((s1.e:Int)==0)=true:=(by rw[bx];rfl);have aV:=U bx;clear bx;obtain⟨c,hc⟩:=az (vn s1.r);have bq:=U hc;by_cases Dt:hd s1.r=41
   ·have t41:(c==41)=true:=(by rw[←hc,oZ Dt];rfl);have dF:J (ur s1=⟨s1.r.drop 1,s1.ops,0⟩∧s1.r≠[]):=⟨by unfold ur;rw[aT aV.out,aT Dt],by intro e;rw[e] at Dt;exact absurd Dt (by decide)⟩;clear hc Dt;go_wp2_with fail;go_fit (pI _ H1 c bq);rintro e w' ⟨dj,rfl,rfl⟩;have a1:=U ((H1.out.drewN dj).BB dF.out.2 aV.out).any;go_wp2_with fail;go_end0;exact⟨rfl,by rw[cd.out,dF.out.1];exact a1.out⟩
   ·have t41:(c==41)=false:=(by rw[←hc];exact yu Dt);have dF:J (ur s1=⟨s1.r,s1.ops,3⟩):=(by show _=_;unfold ur;rw[aT aV.out,aK Dt]);clear hc Dt;go_wp2_with fail;go_fit (pI _ H1 c bq);rintro e w' ⟨dj,rfl,rfl⟩;go_wp2_with fail;refine dH (nL rfl _ _ _) rfl ?_;exact⟨rfl,by rw[cd.out,dF.out];exact ((H1.out.drewN dj).err 3).any⟩
  ·have FG:((s1.e:Int)==0)=false:=(by simp;omega);have dF:J (ur s1=s1):=(by show _=_;unfold ur;rw[aK bx]);clear bx;go_wp2_with fail;refine dH (nL rfl _ _ _) rfl ?_;exact⟨rfl,by rw[cd.out,dF.out];exact H1.out.any⟩
theorem ami(h:xz (hd st.r)=false):fL d st=q9 st:=by cases d<;>(rw[fL,aK (by rw[h];decide)])
theorem abF(d:Nat)(hS:S.size≤300)(h:qR w0 S R deep st w)(he:st.e=0)(hZ:st.ops.length+st.r.length≤300)(hs:xz (hd st.r)=false):
  Calls Tryz.prog 318 #[dv R 0] w (Left w0 S R deep (fL d st)):=by
 rw[ami hs];obtain⟨k,v,h⟩:=h;have H:=U h;obtain⟨aJ,aI,c2,c3,bF⟩:=h.cells;have f4:=h.frozen 4;have aj:st.ops.length≤1000:=by omega
 obtain⟨c,hc⟩:=az (vn st.r);have bq:=U hc;have hne:hd st.r≠43∧hd st.r≠45∧hd st.r≠40:=by refine⟨?_,?_,?_⟩<;>(intro e;rw[e] at hs;exact absurd hs (by decide))
 have t43:(c==43)=false:=by rw[←hc];exact yu hne.1
 have t45:(c==45)=false:=by rw[←hc];exact yu hne.2.1
 have t40:(c==40)=false:=by rw[←hc];exact yu hne.2.2
 clear h hZ hs hne;by_cases pY:hd st.r=36
 ·have t36:(c==36)=true:=(by rw[←hc,oZ pY];rfl);have cd:J (q9 st=ll st):=(by show _=_;unfold q9;rw[aT pY]);have amj:=U pY;clear hc pY;go_enter z7,z8;go_wp2_with fail;go_fit (pI _ H c bq);rintro e w' ⟨dj,rfl,rfl⟩;go_wp2_with fail;go_fit (al8 hS _ (H.out.drewN dj).any he aj amj.out);rintro e cr ⟨rfl,ah⟩;go_wp2_with fail;go_end0;exact⟨rfl,by rw[cd.out];exact ah⟩
 ·have t36:(c==36)=false:=(by rw[←hc];exact yu pY);by_cases lp:hd st.r=46
  ·have t46:(c==46)=true:=(by rw[←hc,oZ lp];rfl);have cd:J (q9 st=jP st):=(by show _=_;unfold q9;rw[aK pY,aT (by rw[lp];decide)]);clear hc pY lp;go_enter z7,z8;go_wp2_with fail;go_fit (pI _ H c bq);rintro e w' ⟨dj,rfl,rfl⟩;go_wp2_with fail;go_fit (FD hS _ (H.out.drewN dj).any he aj);rintro e cr ⟨rfl,ah⟩;go_wp2_with fail;go_end0;exact⟨rfl,by rw[cd.out];exact ah⟩
  ·have t46:(c==46)=false:=(by rw[←hc];exact yu lp);obtain⟨b,af⟩:=az (fi (hd st.r))
   have aH:J ((decide (48≤c)&&decide (c≤57))=b):=by
    show _=_;rw[←af,←hc];unfold fi vn
    congr 1<;>(rw[decide_eq_decide];omega)
   cases b with
   |true=>
    have cd:J (q9 st=jP st):=(by show _=_;unfold q9;rw[aK pY,aT (by rw[af];simp)]);clear hc pY lp af;go_enter z7,z8;go_wp2_with fail;go_fit (pI _ H c bq);rintro e w' ⟨dj,rfl,rfl⟩;go_wp2_with fail;go_fit (H6 _ true aH _);rintro e w' ⟨rfl,rfl⟩;go_wp2_with fail;go_fit (FD hS _ (H.out.drewN dj).any he aj);rintro e cr ⟨rfl,ah⟩;go_wp2_with fail;go_end0;exact⟨rfl,by rw[cd.out];exact ah⟩
   |false=>
    have cd:J (q9 st=⟨st.r,st.ops,3⟩):=(by show _=_;unfold q9;rw[aK pY,aK (by rw[af];simpa using lp)]);clear hc pY lp af;go_enter z7,z8;go_wp2_with fail;go_fit (pI _ H c bq);rintro e w' ⟨dj,rfl,rfl⟩;go_wp2_with fail;go_fit (H6 _ false aH _);rintro e w' ⟨rfl,rfl⟩;go_wp2_with fail;go_end0;exact⟨rfl,by rw[cd.out];exact ((H.out.drewN dj).err 3).any⟩
theorem amk:FE 0:=by
 intro w0 S R deep st w hS qi h he hZ;by_cases hs:xz (hd st.r)=true
 ·obtain⟨k,v,h⟩:=h;have H:=U h;obtain⟨aJ,aI,c2,c3,bF⟩:=h.cells;have f4:=h.frozen 4;obtain⟨c,hc⟩:=az (vn st.r);have bq:=U hc;obtain rfl:deep=30:=(by omega);have cd:J (fL 0 st=⟨st.r,st.ops,6⟩):=(by show _=_;rw[fL,aT hs]);have aV:J (Left w0 S R 30 (fL 0 st)=Left w0 S R 30 ⟨st.r,st.ops,6⟩):=(by show _=_;rw[cd.out]);clear h hZ he;rcases Sa hs with aQ|aQ|aQ
  ·skip
   have t43:(c==43)=true:=(by rw[←hc,oZ aQ];rfl);clear hc hs aQ;go_enter z7,z8;go_wp2_with fail;go_fit (pI _ H c bq);rintro e w' ⟨dj,rfl,rfl⟩;go_wp2_with fail;refine dH (nL rfl _ _ _) rfl ?_;exact⟨rfl,by rw[cd.out];exact ((H.out.drewN dj).err 6).any⟩
  ·skip
   have t43:(c==43)=false:=(by rw[←hc,oZ aQ];rfl);have t45:(c==45)=true:=(by rw[←hc,oZ aQ];rfl);clear hc hs aQ;go_enter z7,z8;go_wp2_with fail;go_fit (pI _ H c bq);rintro e w' ⟨dj,rfl,rfl⟩;go_wp2_with fail;refine dH (nL rfl _ _ _) rfl ?_;exact⟨rfl,by rw[cd.out];exact ((H.out.drewN dj).err 6).any⟩
  ·skip
   have t43:(c==43)=false:=(by rw[←hc,oZ aQ];rfl);have t45:(c==45)=false:=(by rw[←hc,oZ aQ];rfl);have t40:(c==40)=true:=(by rw[←hc,oZ aQ];rfl);clear hc hs aQ;go_enter z7,z8;go_wp2_with fail;go_fit (pI _ H c bq);rintro e w' ⟨dj,rfl,rfl⟩;go_wp2_with fail;refine dH (nL rfl _ _ _) rfl ?_;exact⟨rfl,by rw[cd.out];exact ((H.out.drewN dj).err 6).any⟩
 ·exact abF 0 hS h he hZ (by simpa using hs)
theorem iu.UH(h:iu w0 S R deep st k v w):iu w0 S R (deep+1) st k v (w.setCell (ag R 2) (I ((deep:Int)+1))):=h.PD (deep+1)
theorem aml(d:Nat)(ES:PT d):FE (d+1):=by
 intro w0 S R deep st w hS qi h he hZ;by_cases hs:xz (hd st.r)=true
 ·obtain⟨k,v,h⟩:=h;have H:=U h;obtain⟨aJ,aI,c2,c3,bF⟩:=h.cells;have f1:=h.frozen 1;have f2:=h.frozen 2;have UG:k≤300:=dX h.vm hS;obtain⟨c,hc⟩:=az (vn st.r);have bq:=U hc;have awy:((deep:Int)==30)=false:=(by simp;omega);have cd:J (fL (d+1) st=r8 (fL d) (hd st.r) ⟨st.r.drop 1,st.ops,0⟩):=(by show _=_;rw[fL,aT hs,he]);have k8:=U (Yn hs);have bm:=U he;have j5:J ((⟨st.r.drop 1,st.ops,0⟩:dU).ops.length+(⟨st.r.drop 1,st.ops,0⟩:dU).r.length≤300):=(by show st.ops.length+(st.r.drop 1).length≤300;rw[gZ];omega);have UI:deep+1+d=30:=(by omega);have UJ:=U hs;have sO:J (c=((hd st.r).toNat:Int)):=(by show _=_;rw[←hc];rfl);clear h hZ he;rcases Sa hs with aQ|aQ|aQ
  ·skip
   have t43:(c==43)=true:=(by rw[←hc,oZ aQ];rfl);clear hc hs aQ;go_enter z7,z8;go_wp2_with fail;go_fit (pI _ H c bq);rintro e w' ⟨dj,rfl,rfl⟩;have a1:=U ((H.out.drewN dj).BB k8.out bm.out).UH.any;go_wp2_with fail;go_fit (ES.use hS UI a1.out rfl j5.out UJ.out sO);rintro e cr ⟨rfl,a8,v2,ah⟩;have b9:=U ah;obtain⟨d0,d1,d2,d3,d4⟩:=ah.cells;have g2:=ah.frozen 2;have br:=U (ah.PD deep).any;clear ah aJ aI c2 c3 bF f1 f2;go_wp2_with fail;go_end0;exact⟨rfl,by rw[cd.out];exact br.out⟩
  ·skip
   have t43:(c==43)=false:=(by rw[←hc,oZ aQ];rfl);have t45:(c==45)=true:=(by rw[←hc,oZ aQ];rfl);clear hc hs aQ;go_enter z7,z8;go_wp2_with fail;go_fit (pI _ H c bq);rintro e w' ⟨dj,rfl,rfl⟩;have a1:=U ((H.out.drewN dj).BB k8.out bm.out).UH.any;go_wp2_with fail;go_fit (ES.use hS UI a1.out rfl j5.out UJ.out sO);rintro e cr ⟨rfl,a8,v2,ah⟩;have b9:=U ah;obtain⟨d0,d1,d2,d3,d4⟩:=ah.cells;have g2:=ah.frozen 2;have br:=U (ah.PD deep).any;clear ah aJ aI c2 c3 bF f1 f2;go_wp2_with fail;go_end0;exact⟨rfl,by rw[cd.out];exact br.out⟩
  ·skip
   have t43:(c==43)=false:=(by rw[←hc,oZ aQ];rfl);have t45:(c==45)=false:=(by rw[←hc,oZ aQ];rfl);have t40:(c==40)=true:=(by rw[←hc,oZ aQ];rfl);clear hc hs aQ;go_enter z7,z8;go_wp2_with fail;go_fit (pI _ H c bq);rintro e w' ⟨dj,rfl,rfl⟩;have a1:=U ((H.out.drewN dj).BB k8.out bm.out).UH.any;go_wp2_with fail;go_fit (ES.use hS UI a1.out rfl j5.out UJ.out sO);rintro e cr ⟨rfl,a8,v2,ah⟩;have b9:=U ah;obtain⟨d0,d1,d2,d3,d4⟩:=ah.cells;have g2:=ah.frozen 2;have br:=U (ah.PD deep).any;clear ah aJ aI c2 c3 bF f1 f2;go_wp2_with fail;go_end0;exact⟨rfl,by rw[cd.out];exact br.out⟩
 ·exact abF (d+1) hS h he hZ (by simpa using hs)
theorem UK:∀d,FE d
 |0=>amk
 |d+1=>aml d (amg d (UK d) (abE d (abD d (UK d))))
theorem amm:Lz 30:=abE 30 (abD 30 (UK 30))
def amn(l:List (Int×Int))(a e:Nat)(w:bTo)(lf:Ending)(w':bTo):Prop:=
 ∃v,lf=bb (.tuple #[v,I (a:Int),I (e:Int)])∧w'.ownsRow w.heap.size 413 2 v l.length (sJ l)∧av w w w'
theorem UL(w:bTo)(B:Nat):w.ownsRow B 413 2 (ay 0) ([]:List (Int×Int)).length (sJ []):=⟨rfl,.inl ⟨rfl,rfl⟩⟩
theorem abG(S:aia)(hm:S.size≤maxLen)(w:bTo)(l:List (Int×Int))(a e:Nat)(hp:J (zb S.data.toList=(l,a,e))):
  Calls Tryz.prog 222 #[au S] w (amn l a e w):=by
 unfold maxLen at hm;have hlen:S.data.toList.length=S.size:=cR S;by_cases awz:300<(S.size:Int)
 ·have hx:=hp.out;unfold zb at hx;rw[aT (by omega)] at hx;simp only[gA] at hx;obtain⟨rfl,rfl,rfl⟩:=hx;clear hlen;go_enter Tryz.func222,Tryz.ntmps222;go_wp2_with fail;go_ret3;exact⟨_,rfl,UL w _,Below.refl _ _⟩
 ·have hS:S.size≤300:=(by omega);obtain⟨s1,k7⟩:=az (Cj S.data.toList);have cV:J ((if vW s1=0 then (s1.ops,0,0) else ([],S.size-s1.r.length,vW s1))=(l,a,e)):=(by show _=_;have hx:=hp.out;unfold zb at hx;rw[aK (by omega),k7,hlen] at hx;exact hx);have js:J (vV (fL 30) ⟨S.data.toList,[],0⟩=s1):=k7
  have amo:J (qR w S w.heap.size 0 ⟨S.data.toList,[],0⟩ (w.alloc (PB S 0 0 (ay 0) 0))):=
   ⟨0,ay 0,eC _,rfl,gi w _,⟨rfl,.inl ⟨rfl,rfl⟩⟩,(Below.refl _ _).alloc (bD _) _,bD _⟩
  have bq:J ((⟨S.data.toList,[],0⟩:dU).ops.length+(⟨S.data.toList,[],0⟩:dU).r.length≤300):=(by show 0+S.data.toList.length≤300;omega);clear k7 hlen hp;go_enter Tryz.func222,Tryz.ntmps222;go_wp2_with fail;go_fit (amm.use (st:=⟨S.data.toList,[],0⟩) hS rfl amo.out rfl bq.out);rw[js.out];rintro lf bE ⟨rfl,k,v,aa⟩;have H1:=U aa;have AP:=aa.vm;have iO:=U aa.len;obtain⟨aJ,aI,c2,c3,bF⟩:=aa.cells;have f4:=aa.frozen 4;clear aa;by_cases bx:s1.e=0
  ·have FG:((s1.e:Int)==0)=true:=(by rw[bx];rfl);by_cases hr:k<S.size
   ·have bm:J (l=[]∧a=k∧e=3):=(by have hx:=cV.out;have UM:s1.r≠[]:=(by intro e;have:=iO.out;rw[e] at this;simp at this;omega);have ax:vW s1=3:=(by unfold vW;rw[aT bx,aK UM]);rw[ax,aK (by decide)] at hx;simp only[gA] at hx;exact⟨hx.1.symm,by have:=iO.out;omega,hx.2.2.symm⟩);obtain⟨rfl,rfl,rfl⟩:=bm.out;clear bx cV js;have aH:J (av w w (bE.setCell (ag w.heap.size 4) (I 3))):=H1.out.aY.setCell (bD _) _;go_wp2_with fail
    go_quiet (fail)
    go_wp2_with fail;go_ret3;exact⟨_,rfl,UL _ _,below_drewN aH.out _⟩
   ·have bm:J (l=s1.ops∧a=0∧e=0):=(by have hx:=cV.out;have UM:s1.r=[]:=(by have:=iO.out;exact qz (by omega));have ax:vW s1=0:=(by unfold vW;rw[aT bx,aT UM]);rw[ax,aT rfl] at hx;simp only[gA] at hx;exact⟨hx.1.symm,hx.2.1.symm,hx.2.2.symm⟩);obtain⟨rfl,rfl,rfl⟩:=bm.out;clear bx cV js;go_wp2_with fail;go_ret3;exact⟨v,rfl,H1.out.own,H1.out.aY⟩
  ·have FG:((s1.e:Int)==0)=false:=(by simp;omega);have bm:J (l=[]∧a=k∧e=s1.e):=(by have hx:=cV.out;have ax:vW s1=s1.e:=(by unfold vW;rw[aK bx]);rw[ax,aK bx] at hx;simp only[gA] at hx;exact⟨hx.1.symm,by have:=iO.out;omega,hx.2.2.symm⟩);obtain⟨rfl,rfl,rfl⟩:=bm.out;clear bx cV js;go_wp2_with fail
   go_quiet (fail)
   go_wp2_with fail;go_ret3;exact⟨_,rfl,UL _ _,below_drewN H1.out.aY _⟩
end rG
