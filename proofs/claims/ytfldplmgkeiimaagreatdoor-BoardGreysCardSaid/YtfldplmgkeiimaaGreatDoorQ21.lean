/-
  Several texts of this proof in one: K3.
-/
import Derived.Test.YtfldplmgkeiimaaGreatDoorQ14
import Derived.Test.YtfldplmgkeiimaaGreatDoorQ0
set_option linter.unusedVariables false
set_option linter.unusedSimpArgs false
namespace Go.Proofs.YtfldplmgkeiimaaGreatDoor.RdW
open Go.RowKit Go.Proofs.YtfldplmgkeiimaaGreatDoor.Dp Go.Proofs.YtfldplmgkeiimaaGreatDoor.Base Go.Proofs.YtfldplmgkeiimaaGreatDoor.Ep Go.Proofs.YtfldplmgkeiimaaGreatDoor.Mem
theorem digit_c (X:Int) (b:Bool) (hb:Hid ((decide (48≤X) && decide (X≤57))=b)) (w:World):
  Calls Tryz.prog 330 #[.int .u8 X] w fun e w'=>e= .returned (.bool b)∧w=w':=by
 by_cases h1:48≤X
 ·by_cases h2:X≤57
  ·obtain rfl:true=b:=by rw [←hb.out];simp [h1,h2]
   go_enter Tryz.func330,Tryz.ntmps330
   go_wp2_with fail
   go_ret
   exact ⟨rfl,rfl⟩
  ·obtain rfl:false=b:=by rw [←hb.out];simp [h2]
   go_enter Tryz.func330,Tryz.ntmps330
   go_wp2_with fail
   go_ret
   exact ⟨rfl,rfl⟩
 ·obtain rfl:false=b:=by rw [←hb.out];simp [h1]
  go_enter Tryz.func330,Tryz.ntmps330
  go_wp2_with fail
  go_ret
  exact ⟨rfl,rfl⟩
theorem at_byte {S:ByteArray} {i:Nat} (h:i < S.size):∃X:Nat,S[i].toNat=X∧X < 256:=⟨_,rfl,UInt8.toNat_lt _⟩
theorem drop_at {S:ByteArray} {k j:Nat} (h:k+j < S.size):∃hj:j <(S.data.toList.drop k).length,(S.data.toList.drop k)[j]=S[k+j]:=by
 have hl:S.data.toList.length=S.size:=len_list S
 exact ⟨by rw [List.length_drop,hl];omega,by rw [List.getElem_drop];rfl⟩
theorem nd_going {S:ByteArray} {k i:Nat} (hk:k≤i) (h:i < S.size) (hj:i - k≤nd (S.data.toList.drop k)) (hd:isD S[i]=true):i+1 - k≤nd (S.data.toList.drop k):=by
 obtain ⟨j,rfl⟩:∃j,i=k+j:=⟨i - k,by omega⟩
 obtain ⟨h1,h2⟩:=drop_at h
 have:=nd_lt (k:=j) (by omega) h1 (by rw [h2];exact hd)
 omega
theorem nd_halt {S:ByteArray} {k i:Nat} (hk:k≤i) (h:i < S.size) (hj:i - k≤nd (S.data.toList.drop k)) (hd:isD S[i]=false):k+nd (S.data.toList.drop k)=i:=by
 obtain ⟨j,rfl⟩:∃j,i=k+j:=⟨i - k,by omega⟩
 obtain ⟨h1,h2⟩:=drop_at h
 have:=nd_stop (k:=j) (by omega) h1 (by rw [h2];exact hd)
 omega
theorem nd_over {S:ByteArray} {k i:Nat} (hk:k≤i) (h:¬i < S.size) (hi:i≤S.size) (hj:i - k≤nd (S.data.toList.drop k)):k+nd (S.data.toList.drop k)=i:=by
 have h1:=nd_le (S.data.toList.drop k)
 rw [List.length_drop,len_list] at h1
 omega
theorem dig_bool {S:ByteArray} {i X:Nat} (h:i < S.size) (hX:S[i].toNat=X) (b:Bool) (hb:isD S[i]=b):(decide (48≤(X:Int)) && decide ((X:Int)≤57))=b:=by
 rw [←hb,←hX]
 unfold isD
 congr 1 <;>(rw [decide_eq_decide];omega)
set_option maxHeartbeats 800000 in
theorem digits_c {R:Nat} {S:ByteArray} (hS:S.size≤300) (w:World) (h0:w.cell? ⟨R,0,none⟩=some (.string S)) (k:Nat) (hk:k≤S.size) (a:Int) (ha:Hid (a=(k:Int))) (m:Nat) (hm:Hid (k+nd (S.data.toList.drop k)=m)):
  Calls Tryz.prog 335 #[.pointer (some ⟨R,0,none⟩), .int .i64 a] w fun e w'=>e= .returned (.int .i64 (m:Int))∧w=w':=by
 obtain rfl:=ha.out
 go_enter Tryz.func335,Tryz.ntmps335
 go_wp2_with fail
 go_loop [1] (fun a=>∃i:Nat,k≤i∧i≤S.size∧a= .int .i64 (i:Int)∧Hid (i - k≤nd (S.data.toList.drop k))) (fun a=>S.size -(intOf a).toNat)
 case atStart=>exact ⟨k,by omega,by omega,rfl,by show k - k≤_;omega⟩
 case round=>
  obtain ⟨i,hki,his,rfl,hjn⟩:=hrel
  by_cases hlt:i < S.size
  ·obtain ⟨X,hX,hX2⟩:=at_byte hlt
   obtain ⟨b,hb⟩:∃b,isD S[i]=b:=⟨_,rfl⟩
   have HB:Hid ((decide (48≤(X:Int)) && decide ((X:Int)≤57))=b):=dig_bool hlt hX b hb
   have hXi:((S[i].toNat:Nat):Int)=(X:Int):=by rw [hX]
   have HN:Hid ((b=true→i+1 - k≤nd (S.data.toList.drop k))∧(b=false→k+nd (S.data.toList.drop k)=i)):=⟨fun h=>nd_going hki hlt hjn.out (hb.trans h),fun h=>nd_halt hki hlt hjn.out (hb.trans h)⟩
   clear hX hb
   cases b with
   | true=>
    go_wp2_with fail
    with_reducible refine (digit_c _ true HB _).mono ?_
    rintro e w' ⟨rfl,rfl⟩
    go_wp2_with fail
    go_round
    case rel=>exact ⟨i+1,by omega,by omega,by go_num,HN.out.1 trivial⟩
    case measure=>simp [intOf];omega
   | false=>
    have HM:Hid (((i:Nat):Int)=(m:Int)):=by show _=_;rw [←hm.out,HN.out.2 rfl]
    go_wp2_with fail
    with_reducible refine (digit_c _ false HB _).mono ?_
    rintro e w' ⟨rfl,rfl⟩
    go_wp2_with fail
    go_ret
    exact ⟨ret_int HM.out,rfl⟩
  ·have HM:Hid (((i:Nat):Int)=(m:Int)):=by show _=_;rw [←hm.out,nd_over hki hlt his hjn.out]
   go_wp2_with fail
   go_ret
   exact ⟨ret_int HM.out,rfl⟩
theorem varN_snoc (l:List UInt8) (c:UInt8):varN (l++ [c])=min (10 *varN l+(c.toNat - 48)) 100:=by simp [varN]
theorem varN_step {S:ByteArray} {k i m X:Nat} (hk:k≤i) (h:i < S.size) (hX:S[i].toNat=X) (hm:varN ((S.data.toList.drop k).take (i - k))=m):varN ((S.data.toList.drop k).take (i+1 - k))=min (10 *m+(X - 48)) 100:=by
 obtain ⟨j,rfl⟩:∃j,i=k+j:=⟨i - k,by omega⟩
 obtain ⟨h1,h2⟩:=drop_at h
 rw [show k+j - k=j by omega] at hm
 rw [show k+j+1 - k=j+1 by omega,List.take_succ_eq_append_getElem h1,varN_snoc,hm,h2,hX]
theorem rest_head {S:ByteArray} {k:Nat} {r:List UInt8} (h:S.data.toList.drop k=r) (hne:r≠ []):k < S.size∧S.data.toList.drop (k+1)=r.drop 1:=by
 have h1:=congrArg List.length h
 rw [List.length_drop,len_list] at h1
 have h2:=List.length_pos_iff.2 hne
 refine ⟨by omega,?_⟩
 rw [←h,List.drop_drop]
theorem head_at {S:ByteArray} {k:Nat} (h:k < S.size):hd (S.data.toList.drop k)=S[k]:=by
 have hl:k < S.data.toList.length:=by rw [len_list];exact h
 rw [List.drop_eq_getElem_cons hl]
 rfl
set_option maxRecDepth 100000 in
set_option maxHeartbeats 1600000 in
theorem variable_c {w0:World} {S:ByteArray} {R deep:Nat} {st:St} (hS:S.size≤300) (w:World) (h:RdA w0 S R deep st w) (he:st.e=0) (hl:st.ops.length≤1000) (h36:hd st.r=36):
  Calls Tryz.prog 329 #[.pointer (some ⟨R,0,none⟩)] w (Left w0 S R deep (varV st)):=by
 obtain ⟨k,v,h⟩:=h
 have hne:st.r≠ []:=by intro e;rw [e] at h36;exact absurd h36 (by decide)
 obtain ⟨hks,hx⟩:=rest_head h.rest hne
 have H:=Lib.hid h
 obtain ⟨c0,c1,c2,c3,c4⟩:=h.cells
 have f4:=h.frozen 4
 have HX:=Lib.hid hx
 have HE:=Lib.hid he
 clear h hx he h36 hne
 go_enter Tryz.func329,Tryz.ntmps329
 go_wp2_with fail
 go_loop [2,3] (fun a n=>∃i m:Nat,k+1≤i∧i≤S.size∧m≤100∧a= .int .i64 (i:Int)∧n= .int .i64 (m:Int)∧Hid (i -(k+1)≤nd (S.data.toList.drop (k+1))∧varN ((S.data.toList.drop (k+1)).take (i -(k+1)))=m)) (fun a _=>S.size -(intOf a).toNat)
 case atStart=>exact ⟨k+1,0,by omega,by omega,by omega,by go_num,rfl,by show k+1 -(k+1)≤_;omega,by rw [Nat.sub_self];rfl⟩
 case round=>
  obtain ⟨i,m,hki,his,hm,rfl,rfl,hjn⟩:=hrel
  by_cases hgo:i < S.size∧isD (S.data.toList.getD i 0)=true
  ·obtain ⟨hlt,hdg⟩:=hgo
   have hdg':isD S[i]=true:=by
    have:S.data.toList.getD i 0=S[i]:=by
     rw [List.getD_eq_getElem?_getD,List.getElem?_eq_getElem (by rw [len_list];exact hlt)];rfl
    rw [←this];exact hdg
   obtain ⟨X,hX,hX2⟩:=at_byte hlt
   have HB:Hid ((decide (48≤(X:Int)) && decide ((X:Int)≤57))=true):=dig_bool hlt hX true hdg'
   have hXi:((S[i].toNat:Nat):Int)=(X:Int):=by rw [hX]
   have hXb:48≤X∧X≤57:=by rw [←hX];exact (isD_iff _).1 hdg'
   obtain ⟨hX48,hX57⟩:=hXb
   obtain ⟨V,hV⟩:∃V:Nat,min (10 *m+(X - 48)) 100=V:=⟨_,rfl⟩
   have hVi:min (10 *(m:Int)+((X:Int) - 48)) 100=(V:Int):=by omega
   have hV100:V≤100:=by omega
   have HN:Hid (i+1 -(k+1)≤nd (S.data.toList.drop (k+1))∧varN ((S.data.toList.drop (k+1)).take (i+1 -(k+1)))=V):=⟨nd_going hki hlt hjn.out.1 hdg',by rw [varN_step hki hlt hX hjn.out.2,hV]⟩
   clear hX hV hdg hdg'
   go_wp2_with fail
   with_reducible refine (digit_c _ true HB _).mono ?_
   rintro e w' ⟨rfl,rfl⟩
   go_wp2_with fail
   go_round
   case rel=>exact ⟨i+1,V,by omega,by omega,hV100,by go_num,rfl,HN⟩
   case measure=>simp [intOf];omega
  ·by_cases hlt:i < S.size
   ·obtain ⟨X,hX,hX2⟩:=at_byte hlt
    have hdg':isD S[i]=false:=by
     rw [Bool.eq_false_iff]
     intro hd1
     apply hgo
     refine ⟨hlt,?_⟩
     have:S.data.toList.getD i 0=S[i]:=by
      rw [List.getD_eq_getElem?_getD,List.getElem?_eq_getElem (by rw [len_list];exact hlt)];rfl
     rw [this];exact hd1
    have HB:Hid ((decide (48≤(X:Int)) && decide ((X:Int)≤57))=false):=dig_bool hlt hX false hdg'
    have hXi:((S[i].toNat:Nat):Int)=(X:Int):=by rw [hX]
    have hF1:=nd_halt hki hlt hjn.out.1 hdg'
    have HF:Hid (k+1+nd (S.data.toList.drop (k+1))=i∧varN ((S.data.toList.drop (k+1)).take (nd (S.data.toList.drop (k+1))))=m):=⟨hF1,by rw [←hjn.out.2];congr 2;omega⟩
    clear hX hdg' hgo hF1
    go_wp2_with fail
    with_reducible refine (digit_c _ false HB _).mono ?_
    rintro e w' ⟨rfl,rfl⟩
    go_wp2_with fail
    by_cases hm1:(m:Int)< 1
    ·have HV:Hid (varV st=⟨st.r,st.ops,3⟩):=by
      show _=_
      unfold varV
      rw [←HX.out,HF.out.2,if_pos (.inl (by omega))]
     go_quiet (fail)
     go_wp2_with fail
     refine bodyPost_ret (results_none rfl _ _ _) rfl ?_
     exact ⟨rfl,by rw [HV.out];exact ⟨k,v,(H.out.drewN _).err 3⟩⟩
    ·by_cases hm2:99 <(m:Int)
     ·have HV:Hid (varV st=⟨st.r,st.ops,3⟩):=by
       show _=_
       unfold varV
       rw [←HX.out,HF.out.2,if_pos (.inr (.inl (by omega)))]
      go_quiet (fail)
      go_wp2_with fail
      refine bodyPost_ret (results_none rfl _ _ _) rfl ?_
      exact ⟨rfl,by rw [HV.out];exact ⟨k,v,(H.out.drewN _).err 3⟩⟩
     ·have hk1:k+1 < S.size:=by
       apply Classical.byContradiction
       intro hn
       have h1:=HF.out.2
       rw [List.drop_eq_nil_of_le (by rw [len_list];omega)] at h1
       have h2:varN (List.take (nd []) [])=0:=rfl
       omega
      obtain ⟨Y,hY,hY2⟩:=at_byte hk1
      have hYi:((S[k+1].toNat:Nat):Int)=(Y:Int):=by rw [hY]
      have hh:hd (st.r.drop 1)=S[k+1]:=by rw [←HX.out];exact head_at hk1
      by_cases h48:Y=48
      ·have t48:((Y:Int)==48)=true:=by rw [h48];rfl
       have HV:Hid (varV st=⟨st.r,st.ops,3⟩):=by
        show _=_
        unfold varV
        rw [if_pos (.inr (.inr (by rw [hh];apply UInt8.toNat_inj.1;rw [hY,h48];rfl)))]
       clear hh hY h48
       go_quiet (fail)
       go_wp2_with fail
       refine bodyPost_ret (results_none rfl _ _ _) rfl ?_
       exact ⟨rfl,by rw [HV.out];exact ⟨k,v,(H.out.drewN _).err 3⟩⟩
      ·have t48:((Y:Int)==48)=false:=by simp;omega
       have HV:Hid (varV st=⟨(st.r.drop 1).drop (nd (st.r.drop 1)),st.ops++ [(2,(m:Int))],0⟩∧put st 2 (m:Int)=⟨st.r,st.ops++ [(2,(m:Int))],0⟩∧S.data.toList.drop i=(st.r.drop 1).drop (nd (st.r.drop 1))):=by
        refine ⟨?_,by unfold put;rw [if_pos HE.out],by rw [←HX.out,List.drop_drop,HF.out.1]⟩
        unfold varV
        rw [←HX.out,HF.out.2,if_neg]
        rintro (h | h | h)
        ·omega
        ·omega
        ·rw [HX.out,hh] at h
         apply h48
         rw [←hY,h];rfl
       clear hh hY h48
       go_quiet (fail)
       go_wp2_with fail
       with_reducible refine (put_c _ (H.out.drewN _).any hl 2 (m:Int)).mono ?_
       rintro e w' ⟨rfl,k',v',h'⟩
       have H':=Lib.hid h'
       obtain ⟨d0,d1,d2,d3,d4⟩:=h'.cells
       have f1:=h'.frozen 1
       clear h' c0 c1 c2 c3 c4 f4
       go_wp2_with fail
       go_end0
       refine ⟨rfl,i,v',?_⟩
       have hst:=H'.out.step his rfl
       rw [HV.out.2.1,HV.out.2.2] at hst
       rw [HV.out.1]
       exact hst
   ·have hF1:=nd_over hki hlt his hjn.out.1
    have HF:Hid (k+1+nd (S.data.toList.drop (k+1))=i∧varN ((S.data.toList.drop (k+1)).take (nd (S.data.toList.drop (k+1))))=m):=⟨hF1,by rw [←hjn.out.2];congr 2;omega⟩
    clear hgo hF1
    go_wp2_with fail
    by_cases hm1:(m:Int)< 1
    ·have HV:Hid (varV st=⟨st.r,st.ops,3⟩):=by
      show _=_
      unfold varV
      rw [←HX.out,HF.out.2,if_pos (.inl (by omega))]
     go_quiet (fail)
     go_wp2_with fail
     refine bodyPost_ret (results_none rfl _ _ _) rfl ?_
     exact ⟨rfl,by rw [HV.out];exact ⟨k,v,(H.out.drewN _).err 3⟩⟩
    ·by_cases hm2:99 <(m:Int)
     ·have HV:Hid (varV st=⟨st.r,st.ops,3⟩):=by
       show _=_
       unfold varV
       rw [←HX.out,HF.out.2,if_pos (.inr (.inl (by omega)))]
      go_quiet (fail)
      go_wp2_with fail
      refine bodyPost_ret (results_none rfl _ _ _) rfl ?_
      exact ⟨rfl,by rw [HV.out];exact ⟨k,v,(H.out.drewN _).err 3⟩⟩
     ·have hk1:k+1 < S.size:=by
       apply Classical.byContradiction
       intro hn
       have h1:=HF.out.2
       rw [List.drop_eq_nil_of_le (by rw [len_list];omega)] at h1
       have h2:varN (List.take (nd []) [])=0:=rfl
       omega
      obtain ⟨Y,hY,hY2⟩:=at_byte hk1
      have hYi:((S[k+1].toNat:Nat):Int)=(Y:Int):=by rw [hY]
      have hh:hd (st.r.drop 1)=S[k+1]:=by rw [←HX.out];exact head_at hk1
      by_cases h48:Y=48
      ·have t48:((Y:Int)==48)=true:=by rw [h48];rfl
       have HV:Hid (varV st=⟨st.r,st.ops,3⟩):=by
        show _=_
        unfold varV
        rw [if_pos (.inr (.inr (by rw [hh];apply UInt8.toNat_inj.1;rw [hY,h48];rfl)))]
       clear hh hY h48
       go_quiet (fail)
       go_wp2_with fail
       refine bodyPost_ret (results_none rfl _ _ _) rfl ?_
       exact ⟨rfl,by rw [HV.out];exact ⟨k,v,(H.out.drewN _).err 3⟩⟩
      ·have t48:((Y:Int)==48)=false:=by simp;omega
       have HV:Hid (varV st=⟨(st.r.drop 1).drop (nd (st.r.drop 1)),st.ops++ [(2,(m:Int))],0⟩∧put st 2 (m:Int)=⟨st.r,st.ops++ [(2,(m:Int))],0⟩∧S.data.toList.drop i=(st.r.drop 1).drop (nd (st.r.drop 1))):=by
        refine ⟨?_,by unfold put;rw [if_pos HE.out],by rw [←HX.out,List.drop_drop,HF.out.1]⟩
        unfold varV
        rw [←HX.out,HF.out.2,if_neg]
        rintro (h | h | h)
        ·omega
        ·omega
        ·rw [HX.out,hh] at h
         apply h48
         rw [←hY,h];rfl
       clear hh hY h48
       go_quiet (fail)
       go_wp2_with fail
       with_reducible refine (put_c _ (H.out.drewN _).any hl 2 (m:Int)).mono ?_
       rintro e w' ⟨rfl,k',v',h'⟩
       have H':=Lib.hid h'
       obtain ⟨d0,d1,d2,d3,d4⟩:=h'.cells
       have f1:=h'.frozen 1
       clear h' c0 c1 c2 c3 c4 f4
       go_wp2_with fail
       go_end0
       refine ⟨rfl,i,v',?_⟩
       have hst:=H'.out.step his rfl
       rw [HV.out.2.1,HV.out.2.2] at hst
       rw [HV.out.1]
       exact hst
end Go.Proofs.YtfldplmgkeiimaaGreatDoor.RdW
namespace Go.Proofs.YtfldplmgkeiimaaGreatDoor.RdW
open Go.RowKit Go.Proofs.YtfldplmgkeiimaaGreatDoor.Dp Go.Proofs.YtfldplmgkeiimaaGreatDoor.Base Go.Proofs.YtfldplmgkeiimaaGreatDoor.Ep Go.Proofs.YtfldplmgkeiimaaGreatDoor.Mem Go.Proofs.YtfldplmgkeiimaaGreatDoor.DeciW
theorem parse_n (s:ByteArray) (v:Int) (b:Bool) (hv:Hid ((dec s.data.toList).getD 0=v∧(dec s.data.toList).isSome=b)) (hs:s.size≤maxLen) (w:World):
  Calls Tryz.prog 136 #[.string s] w fun e w'=>e= .returned (.tuple #[.int .i64 v, .bool b])∧w'=w:=by
 obtain ⟨h1,h2⟩:=hv.out
 subst h1;subst h2
 exact (parse_any s w hs).mono fun _ _ h=>⟨h.1,h.2.symm⟩
theorem ext_take (S:ByteArray) (k m:Nat):(S.extract k m).data.toList=(S.data.toList.drop k).take (m - k):=by
 rw [Lib.extract_data]
theorem num_end {S:ByteArray} {k:Nat} {m1:Nat} (hm1:k+nd (S.data.toList.drop k)=m1):
  (¬(m1 < S.size∧hd (S.data.toList.drop m1)=46)→k+numLen (S.data.toList.drop k)=m1)∧(hd (S.data.toList.drop m1)=46→k+numLen (S.data.toList.drop k)=m1+1+nd (S.data.toList.drop (m1+1))):=by
 have e1:(S.data.toList.drop k).drop (nd (S.data.toList.drop k))=S.data.toList.drop m1:=by rw [List.drop_drop,hm1]
 have e2:(S.data.toList.drop k).drop (nd (S.data.toList.drop k)+1)=S.data.toList.drop (m1+1):=by rw [List.drop_drop];congr 1;omega
 unfold numLen
 rw [e1,e2]
 constructor
 ·intro h
  rw [if_neg]
  ·exact hm1
  ·intro h46
   apply h
   refine ⟨?_,h46⟩
   apply Classical.byContradiction
   intro hn
   rw [List.drop_eq_nil_of_le (by rw [len_list];omega)] at h46
   exact absurd h46 (by decide)
 ·intro h
  rw [if_pos h];omega
theorem nd_size (S:ByteArray) (k:Nat) (hk:k≤S.size):k+nd (S.data.toList.drop k)≤S.size:=by
 have h1:=nd_le (S.data.toList.drop k)
 rw [List.length_drop,len_list] at h1
 omega
set_option maxRecDepth 100000 in
set_option maxHeartbeats 1600000 in
theorem number_c {w0:World} {S:ByteArray} {R deep:Nat} {st:St} (hS:S.size≤300) (w:World) (h:RdA w0 S R deep st w) (he:st.e=0) (hl:st.ops.length≤1000):
  Calls Tryz.prog 331 #[.pointer (some ⟨R,0,none⟩)] w (Left w0 S R deep (numV st)):=by
 obtain ⟨k,v,h⟩:=h
 have hk:=h.k_le
 have H:=Lib.hid h
 obtain ⟨c0,c1,c2,c3,c4⟩:=h.cells
 have f1:=h.frozen 1
 have f4:=h.frozen 4
 have HE:=Lib.hid he
 obtain ⟨m1,hm1⟩:∃m1,k+nd (S.data.toList.drop k)=m1:=⟨_,rfl⟩
 have HM1:=Lib.hid hm1
 have hm1s:m1≤S.size:=by rw [←hm1];exact nd_size S k hk
 have hkm1:k≤m1:=by omega
 obtain ⟨m,hm⟩:∃m,k+numLen (S.data.toList.drop k)=m:=⟨_,rfl⟩
 have HM:=Lib.hid hm
 have hne:=num_end hm1
 have hms:k≤m∧m≤S.size:=by
  refine ⟨by omega,?_⟩
  by_cases h46:m1 < S.size∧hd (S.data.toList.drop m1)=46
  ·have h1:=hne.2 h46.2
   have h2:=nd_size S (m1+1) (by omega)
   omega
  ·have h1:=hne.1 h46
   omega
 obtain ⟨hkm,hms⟩:=hms
 have HNE:=Lib.hid hne
 clear h he hm1 hm hne
 obtain ⟨z,hz⟩:∃z,(dec (S.extract k m).data.toList).getD 0=z:=⟨_,rfl⟩
 obtain ⟨b,hb⟩:∃b,(dec (S.extract k m).data.toList).isSome=b:=⟨_,rfl⟩
 have HP:Hid ((dec (S.extract k m).data.toList).getD 0=z∧(dec (S.extract k m).data.toList).isSome=b):=⟨hz,hb⟩
 have hxs:(S.extract k m).size≤300:=by
  have h1:=congrArg List.length (ext_take S k m)
  rw [len_list,List.length_take] at h1
  omega
 have HEX:Hid ((S.extract k m).data.toList=st.r.take (numLen st.r)):=by
  show _=_
  rw [ext_take,H.out.rest]
  congr 1
  have:=HM.out
  rw [H.out.rest] at this
  omega
 clear hz hb
 have i0:(0:Int)≤(k:Int):=by omega
 have i1:(k:Int)≤(m:Int):=by omega
 have i2:(m:Int)≤(S.size:Int):=by omega
 go_enter Tryz.func331,Tryz.ntmps331
 go_wp2_with fail
 with_reducible refine (digits_c hS _ c0 k hk _ (Lib.hid (Eq.refl _)) m1 HM1).mono ?_
 rintro e w' ⟨rfl,rfl⟩
 by_cases hlt:m1 < S.size
 ·obtain ⟨X,hX,hX2⟩:=at_byte hlt
  have hXi:((S[m1].toNat:Nat):Int)=(X:Int):=by rw [hX]
  have hh:=head_at hlt
  by_cases h46:X=46
  ·have t46:((X:Int)==46)=true:=by rw [h46];rfl
   have HEQ:Hid (m1+1+nd (S.data.toList.drop (m1+1))=m):=by
    show _=_
    rw [←HM.out]
    exact (HNE.out.2 (by rw [hh];apply UInt8.toNat_inj.1;rw [hX,h46];rfl)).symm
   have H11:Hid ((m1:Int)+1=((m1+1:Nat):Int)):=by show _=_;omega
   clear hX hh h46
   go_wp2_with fail
   with_reducible refine (digits_c hS _ c0 (m1+1) (by omega) _ H11 m HEQ).mono ?_
   rintro e w' ⟨rfl,rfl⟩
   go_wp2_with fail
   go_quiet ((go_at_call 136;exact Calls.quiet_of_same (parse_n _ z b HP (by unfold maxLen;omega) _)))
   cases b with
   | false=>
    have HV:Hid (numV st=⟨st.r,st.ops,3⟩):=by
     show _=_
     have h1:=HP.out.2
     rw [HEX.out] at h1
     unfold numV
     cases hd1:dec (st.r.take (numLen st.r)) with
     | none=>rfl
     | some n=>rw [hd1] at h1;cases h1
    go_wp2_with fail
    refine bodyPost_ret (results_none rfl _ _ _) rfl ?_
    exact ⟨rfl,by rw [HV.out];exact ⟨k,v,(H.out.drewN _).err 3⟩⟩
   | true=>
    have HV:Hid (numV st=⟨st.r.drop (numLen st.r),st.ops++ [(1,z)],0⟩∧put st 1 z=⟨st.r,st.ops++ [(1,z)],0⟩∧S.data.toList.drop m=st.r.drop (numLen st.r)):=by
     refine ⟨?_,by unfold put;rw [if_pos HE.out],by rw [←HM.out,H.out.rest,←List.drop_drop,H.out.rest]⟩
     have h1:=HP.out
     rw [HEX.out] at h1
     unfold numV
     cases hd1:dec (st.r.take (numLen st.r)) with
     | none=>rw [hd1] at h1;cases h1.2
     | some n=>rw [hd1] at h1;have h2:n=z:=h1.1;rw [h2]
    go_wp2_with fail
    with_reducible refine (put_c _ (H.out.drewN _).any hl 1 z).mono ?_
    rintro e w' ⟨rfl,k',v',h'⟩
    have H':=Lib.hid h'
    obtain ⟨d0,d1,d2,d3,d4⟩:=h'.cells
    have g1:=h'.frozen 1
    clear h' c0 c1 c2 c3 c4 f4 f1
    go_wp2_with fail
    go_end0
    refine ⟨rfl,m,v',?_⟩
    have hst:=H'.out.step hms rfl
    rw [HV.out.2.1,HV.out.2.2] at hst
    rw [HV.out.1]
    exact hst
  ·have t46:((X:Int)==46)=false:=by simp;omega
   obtain rfl:m1=m:=by
    rw [←HM.out]
    refine (HNE.out.1 ?_).symm
    rintro ⟨_,h⟩
    rw [hh] at h
    apply h46
    rw [←hX,h];rfl
   clear hX hh h46
   go_wp2_with fail
   go_quiet ((go_at_call 136;exact Calls.quiet_of_same (parse_n _ z b HP (by unfold maxLen;omega) _)))
   cases b with
   | false=>
    have HV:Hid (numV st=⟨st.r,st.ops,3⟩):=by
     show _=_
     have h1:=HP.out.2
     rw [HEX.out] at h1
     unfold numV
     cases hd1:dec (st.r.take (numLen st.r)) with
     | none=>rfl
     | some n=>rw [hd1] at h1;cases h1
    go_wp2_with fail
    refine bodyPost_ret (results_none rfl _ _ _) rfl ?_
    exact ⟨rfl,by rw [HV.out];exact ⟨k,v,(H.out.drewN _).err 3⟩⟩
   | true=>
    have HV:Hid (numV st=⟨st.r.drop (numLen st.r),st.ops++ [(1,z)],0⟩∧put st 1 z=⟨st.r,st.ops++ [(1,z)],0⟩∧S.data.toList.drop m1=st.r.drop (numLen st.r)):=by
     refine ⟨?_,by unfold put;rw [if_pos HE.out],by rw [←HM.out,H.out.rest,←List.drop_drop,H.out.rest]⟩
     have h1:=HP.out
     rw [HEX.out] at h1
     unfold numV
     cases hd1:dec (st.r.take (numLen st.r)) with
     | none=>rw [hd1] at h1;cases h1.2
     | some n=>rw [hd1] at h1;have h2:n=z:=h1.1;rw [h2]
    go_wp2_with fail
    with_reducible refine (put_c _ (H.out.drewN _).any hl 1 z).mono ?_
    rintro e w' ⟨rfl,k',v',h'⟩
    have H':=Lib.hid h'
    obtain ⟨d0,d1,d2,d3,d4⟩:=h'.cells
    have g1:=h'.frozen 1
    clear h' c0 c1 c2 c3 c4 f4 f1
    go_wp2_with fail
    go_end0
    refine ⟨rfl,m1,v',?_⟩
    have hst:=H'.out.step hms rfl
    rw [HV.out.2.1,HV.out.2.2] at hst
    rw [HV.out.1]
    exact hst
 ·obtain rfl:m1=m:=by
   rw [←HM.out]
   exact (HNE.out.1 (fun h=>hlt h.1)).symm
  go_wp2_with fail
  go_quiet ((go_at_call 136;exact Calls.quiet_of_same (parse_n _ z b HP (by unfold maxLen;omega) _)))
  cases b with
  | false=>
   have HV:Hid (numV st=⟨st.r,st.ops,3⟩):=by
    show _=_
    have h1:=HP.out.2
    rw [HEX.out] at h1
    unfold numV
    cases hd1:dec (st.r.take (numLen st.r)) with
    | none=>rfl
    | some n=>rw [hd1] at h1;cases h1
   go_wp2_with fail
   refine bodyPost_ret (results_none rfl _ _ _) rfl ?_
   exact ⟨rfl,by rw [HV.out];exact ⟨k,v,(H.out.drewN _).err 3⟩⟩
  | true=>
   have HV:Hid (numV st=⟨st.r.drop (numLen st.r),st.ops++ [(1,z)],0⟩∧put st 1 z=⟨st.r,st.ops++ [(1,z)],0⟩∧S.data.toList.drop m1=st.r.drop (numLen st.r)):=by
    refine ⟨?_,by unfold put;rw [if_pos HE.out],by rw [←HM.out,H.out.rest,←List.drop_drop,H.out.rest]⟩
    have h1:=HP.out
    rw [HEX.out] at h1
    unfold numV
    cases hd1:dec (st.r.take (numLen st.r)) with
    | none=>rw [hd1] at h1;cases h1.2
    | some n=>rw [hd1] at h1;have h2:n=z:=h1.1;rw [h2]
   go_wp2_with fail
   with_reducible refine (put_c _ (H.out.drewN _).any hl 1 z).mono ?_
   rintro e w' ⟨rfl,k',v',h'⟩
   have H':=Lib.hid h'
   obtain ⟨d0,d1,d2,d3,d4⟩:=h'.cells
   have g1:=h'.frozen 1
   clear h' c0 c1 c2 c3 c4 f4 f1
   go_wp2_with fail
   go_end0
   refine ⟨rfl,m1,v',?_⟩
   have hst:=H'.out.step hms rfl
   rw [HV.out.2.1,HV.out.2.2] at hst
   rw [HV.out.1]
   exact hst
end Go.Proofs.YtfldplmgkeiimaaGreatDoor.RdW
namespace Go.Proofs.YtfldplmgkeiimaaGreatDoor.RdW
open Go.RowKit Go.Proofs.YtfldplmgkeiimaaGreatDoor.Dp Go.Proofs.YtfldplmgkeiimaaGreatDoor.Base Go.Proofs.YtfldplmgkeiimaaGreatDoor.Ep Go.Proofs.YtfldplmgkeiimaaGreatDoor.Mem
def atOf (R:Nat) (w:World):Nat:=match w.cell? ⟨R,1,none⟩ with | some (.int _ q)=>q.toNat | _=>0
theorem atOf_rd {w0 w:World} {S:ByteArray} {R deep k:Nat} {st:St} {v:Value} (h:Rd w0 S R deep st k v w):atOf R w=k:=by
 unfold atOf
 rw [h.cells.2.1]
 simp
def FacC (d:Nat):Prop:=∀(w0:World) (S:ByteArray) (R deep:Nat) (st:St) (w:World),S.size≤300→deep+d=30→RdA w0 S R deep st w→st.e=0→st.ops.length+st.r.length≤300→
 Calls Tryz.prog 318 #[.pointer (some ⟨R,0,none⟩)] w (Left w0 S R deep (factorV d st))
def ProdC (d:Nat):Prop:=∀(w0:World) (S:ByteArray) (R deep:Nat) (st:St) (w:World),S.size≤300→deep+d=30→RdA w0 S R deep st w→st.e=0→st.ops.length+st.r.length≤300→
 Calls Tryz.prog 289 #[.pointer (some ⟨R,0,none⟩)] w (Left w0 S R deep (prodV (factorV d) st))
def SumC (d:Nat):Prop:=∀(w0:World) (S:ByteArray) (R deep:Nat) (st:St) (w:World),S.size≤300→deep+d=30→RdA w0 S R deep st w→st.e=0→st.ops.length+st.r.length≤300→
 Calls Tryz.prog 255 #[.pointer (some ⟨R,0,none⟩)] w (Left w0 S R deep (sumV (factorV d) st))
theorem FacC.use {d:Nat} (hF:FacC d) {w0:World} {S:ByteArray} {R deep:Nat} {st:St} {w:World} (hS:S.size≤300) (hd:deep+d=30) (h:RdA w0 S R deep st w) (he:st.e=0) (hc:st.ops.length+st.r.length≤300):
 Calls Tryz.prog 318 #[.pointer (some ⟨R,0,none⟩)] w (Left w0 S R deep (factorV d st)):=hF w0 S R deep st w hS hd h he hc
theorem ProdC.use {d:Nat} (hF:ProdC d) {w0:World} {S:ByteArray} {R deep:Nat} {st:St} {w:World} (hS:S.size≤300) (hd:deep+d=30) (h:RdA w0 S R deep st w) (he:st.e=0) (hc:st.ops.length+st.r.length≤300):
 Calls Tryz.prog 289 #[.pointer (some ⟨R,0,none⟩)] w (Left w0 S R deep (prodV (factorV d) st)):=hF w0 S R deep st w hS hd h he hc
theorem SumC.use {d:Nat} (hF:SumC d) {w0:World} {S:ByteArray} {R deep:Nat} {st:St} {w:World} (hS:S.size≤300) (hd:deep+d=30) (h:RdA w0 S R deep st w) (he:st.e=0) (hc:st.ops.length+st.r.length≤300):
 Calls Tryz.prog 255 #[.pointer (some ⟨R,0,none⟩)] w (Left w0 S R deep (sumV (factorV d) st)):=hF w0 S R deep st w hS hd h he hc
def LoopAt (op:UInt8→Option Nat) (f:St→St) (goal:St) (st:St) (K:Nat):Prop:=goal=loopV op f K st∧st.r.length < K∧st.ops.length+st.r.length≤300
theorem loop_done {op:UInt8→Option Nat} {f:St→St} {goal st:St} {K:Nat} (h:LoopAt op f goal st K) (hs:st.e=0→op (hd st.r)=none):goal=st:=by rw [h.1,loop_stop _ hs]
theorem loop_next {op:UInt8→Option Nat} (h0:op 0=none) {f:St→St} (hf:Cnt f) (hd1:Down f) {goal st:St} {K q:Nat} (h:LoopAt op f goal st K) (he:st.e=0) (hq:op (hd st.r)=some q):
  LoopAt op f goal (put (f ⟨st.r.drop 1,st.ops,0⟩) q 0) (K - 1)∧(put (f ⟨st.r.drop 1,st.ops,0⟩) q 0).r.length < st.r.length∧st.r≠ []:=by
 have hne:=op_ne h0 hq
 have hp:=List.length_pos_iff.2 hne
 have h1:=hd1 ⟨st.r.drop 1,st.ops,0⟩
 have h2:=hf ⟨st.r.drop 1,st.ops,0⟩
 have h3:=put_len (f ⟨st.r.drop 1,st.ops,0⟩) q 0
 simp only [List.length_drop] at h1 h2
 have h4:=h.2.1
 have h5:=h.2.2
 obtain ⟨K',rfl⟩:∃j,K=j+1:=⟨K - 1,by omega⟩
 refine ⟨⟨?_,?_,?_⟩,?_,hne⟩
 ·rw [h.1,loop_step _ he hq];rfl
 ·rw [put_r];omega
 ·rw [put_r];omega
 ·rw [put_r];omega
theorem Rd.next1 {w0 w:World} {S:ByteArray} {R deep k:Nat} {st:St} {v:Value} (h:Rd w0 S R deep st k v w) (hne:st.r≠ []) (he:st.e=0):Rd w0 S R deep ⟨st.r.drop 1,st.ops,0⟩ (k+1) v (w.setCell ⟨R,1,none⟩ (.int .i64 ((k:Int)+1))):=by
 obtain ⟨h1,h2⟩:=rest_head h.rest hne
 have:=h.step (m:=k+1) (by omega) h2
 rw [he] at this
 exact this
theorem hdI_eq {r:List UInt8} {c:UInt8} (h:hd r=c):hdI r=(c.toNat:Int):=by unfold hdI;rw [h]
theorem hdI_ne {r:List UInt8} {c:UInt8} (h:hd r≠c):(hdI r==(c.toNat:Int))=false:=by
 rw [beq_eq_false_iff_ne]
 unfold hdI
 intro e
 apply h
 apply UInt8.toNat_inj.1
 omega
set_option maxRecDepth 100000 in
set_option maxHeartbeats 1600000 in
theorem product_c (d:Nat) (hF:FacC d):ProdC d:=by
 intro w0 S R deep st w hS hdd h he hcnt
 go_enter Tryz.func289,Tryz.ntmps289
 go_wp2_with fail
 with_reducible refine (hF.use hS hdd h he hcnt).mono ?_
 rintro e w1 ⟨rfl,h1⟩
 have HL:Hid (LoopAt opP (factorV d) (prodV (factorV d) st) (factorV d st) (st.r.length+1)):=⟨rfl,by have:=factorV_le d st;omega,by have:=factor_cnt d st;omega⟩
 have HR:=Lib.hid h1
 clear h he hcnt h1
 go_wp2_with fail
 go_loopw [2] (fun _ wr=>∃(st':St) (K:Nat),Hid (RdA w0 S R deep st' wr)∧Hid (LoopAt opP (factorV d) (prodV (factorV d) st) st' K)) (fun _ wr=>S.size - atOf R wr)
 case atStart=>exact ⟨_,_,HR,HL⟩
 case round=>
  obtain ⟨st',K,HR',HL'⟩:=hrel
  clear HR HL
  obtain ⟨k,v,h⟩:=HR'.out
  have H:=Lib.hid h
  obtain ⟨c0,c1,c2,c3,c4⟩:=h.cells
  have f1:=h.frozen 1
  have hk300:k≤300:=Nat.le_trans h.k_le hS
  clear h
  by_cases he:st'.e=0
  ·have te:((st'.e:Int)==0)=true:=by rw [he];rfl
   have HE:=Lib.hid he
   clear he
   obtain ⟨c,hc⟩:∃c,hdI st'.r=c:=⟨_,rfl⟩
   have HC:=Lib.hid hc
   by_cases b120:hd st'.r=120
   ·have t120:(c==120)=true:=by rw [←hc,hdI_eq b120];rfl
    have HB:=b120
    have HQ:Hid (opP (hd st'.r)=some 5):=by show _=_;rw [HB];rfl
    have h1:=loop_next rfl (factor_cnt d) (factorV_le d) HL'.out HE.out HQ.out
    have HLN:=Lib.hid h1
    have HNE:Hid (st'.r≠ []):=h1.2.2
    have HCN:Hid ((⟨st'.r.drop 1,st'.ops,0⟩:St).ops.length+(⟨st'.r.drop 1,st'.ops,0⟩:St).r.length≤300):=by
     show st'.ops.length+(st'.r.drop 1).length≤300
     have:=HL'.out.2.2
     rw [List.length_drop];omega
    have HCP:Hid (((factorV d) ⟨st'.r.drop 1,st'.ops,0⟩).ops.length≤1000):=by
     show _≤_
     have g1:=(factor_cnt d) ⟨st'.r.drop 1,st'.ops,0⟩
     have g2:=HCN.out
     omega
    clear HB hc b120
    clear h1
    go_wp2_with fail
    with_reducible refine (next_c _ H c HC).mono ?_
    rintro e w' ⟨nn,rfl,rfl⟩
    have HN:=Lib.hid ((H.out.drewN nn).next1 HNE.out HE.out).any
    go_wp2_with fail
    with_reducible refine (hF.use (st:=⟨st'.r.drop 1,st'.ops,0⟩) hS hdd HN.out rfl HCN.out).mono ?_
    rintro e w2 ⟨rfl,h2⟩
    go_wp2_with fail
    with_reducible refine (put_c _ h2 HCP.out 5 0).mono ?_
    rintro e w3 ⟨rfl,h3⟩
    go_wp2_with fail
    have HM:Hid (S.size - atOf R w3 < S.size - atOf R wr):=by
     show _ < _
     obtain ⟨k3,v3,h3'⟩:=h3
     rw [atOf_rd h3',atOf_rd H.out]
     have g1:=h3'.len
     have g2:=H.out.len
     have g3:=HLN.out.2.1
     have g4:=List.length_pos_iff.2 HNE.out
     rw [put_r] at g1 g3
     omega
    go_roundw
    case rel=>exact ⟨_,_,h3,HLN.out.1⟩
    case measure=>exact HM.out
   ·have t120:(c==120)=false:=by rw [←hc];exact hdI_ne b120
    by_cases b88:hd st'.r=88
    ·have t88:(c==88)=true:=by rw [←hc,hdI_eq b88];rfl
     have HB:=b88
     have HQ:Hid (opP (hd st'.r)=some 5):=by show _=_;rw [HB];rfl
     have h1:=loop_next rfl (factor_cnt d) (factorV_le d) HL'.out HE.out HQ.out
     have HLN:=Lib.hid h1
     have HNE:Hid (st'.r≠ []):=h1.2.2
     have HCN:Hid ((⟨st'.r.drop 1,st'.ops,0⟩:St).ops.length+(⟨st'.r.drop 1,st'.ops,0⟩:St).r.length≤300):=by
      show st'.ops.length+(st'.r.drop 1).length≤300
      have:=HL'.out.2.2
      rw [List.length_drop];omega
     have HCP:Hid (((factorV d) ⟨st'.r.drop 1,st'.ops,0⟩).ops.length≤1000):=by
      show _≤_
      have g1:=(factor_cnt d) ⟨st'.r.drop 1,st'.ops,0⟩
      have g2:=HCN.out
      omega
     clear HB hc b88
     clear h1
     go_wp2_with fail
     with_reducible refine (next_c _ H c HC).mono ?_
     rintro e w' ⟨nn,rfl,rfl⟩
     have HN:=Lib.hid ((H.out.drewN nn).next1 HNE.out HE.out).any
     go_wp2_with fail
     with_reducible refine (hF.use (st:=⟨st'.r.drop 1,st'.ops,0⟩) hS hdd HN.out rfl HCN.out).mono ?_
     rintro e w2 ⟨rfl,h2⟩
     go_wp2_with fail
     with_reducible refine (put_c _ h2 HCP.out 5 0).mono ?_
     rintro e w3 ⟨rfl,h3⟩
     go_wp2_with fail
     have HM:Hid (S.size - atOf R w3 < S.size - atOf R wr):=by
      show _ < _
      obtain ⟨k3,v3,h3'⟩:=h3
      rw [atOf_rd h3',atOf_rd H.out]
      have g1:=h3'.len
      have g2:=H.out.len
      have g3:=HLN.out.2.1
      have g4:=List.length_pos_iff.2 HNE.out
      rw [put_r] at g1 g3
      omega
     go_roundw
     case rel=>exact ⟨_,_,h3,HLN.out.1⟩
     case measure=>exact HM.out
    ·have t88:(c==88)=false:=by rw [←hc];exact hdI_ne b88
     by_cases b47:hd st'.r=47
     ·have t47:(c==47)=true:=by rw [←hc,hdI_eq b47];rfl
      have HB:=b47
      have HQ:Hid (opP (hd st'.r)=some 6):=by show _=_;rw [HB];rfl
      have h1:=loop_next rfl (factor_cnt d) (factorV_le d) HL'.out HE.out HQ.out
      have HLN:=Lib.hid h1
      have HNE:Hid (st'.r≠ []):=h1.2.2
      have HCN:Hid ((⟨st'.r.drop 1,st'.ops,0⟩:St).ops.length+(⟨st'.r.drop 1,st'.ops,0⟩:St).r.length≤300):=by
       show st'.ops.length+(st'.r.drop 1).length≤300
       have:=HL'.out.2.2
       rw [List.length_drop];omega
      have HCP:Hid (((factorV d) ⟨st'.r.drop 1,st'.ops,0⟩).ops.length≤1000):=by
       show _≤_
       have g1:=(factor_cnt d) ⟨st'.r.drop 1,st'.ops,0⟩
       have g2:=HCN.out
       omega
      clear HB hc b47
      clear h1
      go_wp2_with fail
      with_reducible refine (next_c _ H c HC).mono ?_
      rintro e w' ⟨nn,rfl,rfl⟩
      have HN:=Lib.hid ((H.out.drewN nn).next1 HNE.out HE.out).any
      go_wp2_with fail
      with_reducible refine (hF.use (st:=⟨st'.r.drop 1,st'.ops,0⟩) hS hdd HN.out rfl HCN.out).mono ?_
      rintro e w2 ⟨rfl,h2⟩
      go_wp2_with fail
      with_reducible refine (put_c _ h2 HCP.out 6 0).mono ?_
      rintro e w3 ⟨rfl,h3⟩
      go_wp2_with fail
      have HM:Hid (S.size - atOf R w3 < S.size - atOf R wr):=by
       show _ < _
       obtain ⟨k3,v3,h3'⟩:=h3
       rw [atOf_rd h3',atOf_rd H.out]
       have g1:=h3'.len
       have g2:=H.out.len
       have g3:=HLN.out.2.1
       have g4:=List.length_pos_iff.2 HNE.out
       rw [put_r] at g1 g3
       omega
      go_roundw
      case rel=>exact ⟨_,_,h3,HLN.out.1⟩
      case measure=>exact HM.out
     ·have t47:(c==47)=false:=by rw [←hc];exact hdI_ne b47
      have HD:Hid (prodV (factorV d) st=st'):=loop_done HL'.out (fun _=>by unfold opP;simp [b120,b88,b47])
      clear hc b120 b88 b47
      go_wp2_with fail
      with_reducible refine (next_c _ H c HC).mono ?_
      rintro e w' ⟨nn,rfl,rfl⟩
      go_wp2_with fail
      refine bodyPost_ret (results_none rfl _ _ _) rfl ?_
      exact ⟨rfl,by rw [HD.out];exact (H.out.drewN nn).any⟩
  ·have te:((st'.e:Int)==0)=false:=by simp;omega
   have HD:Hid (prodV (factorV d) st=st'):=loop_done HL'.out (fun h=>absurd h he)
   clear he
   go_wp2_with fail
   go_end0
   exact ⟨rfl,by rw [HD.out];exact H.out.any⟩
set_option maxRecDepth 100000 in
set_option maxHeartbeats 1600000 in
theorem sum_c (d:Nat) (hF:ProdC d):SumC d:=by
 intro w0 S R deep st w hS hdd h he hcnt
 go_enter Tryz.func255,Tryz.ntmps255
 go_wp2_with fail
 with_reducible refine (hF.use hS hdd h he hcnt).mono ?_
 rintro e w1 ⟨rfl,h1⟩
 have HL:Hid (LoopAt opS (prodV (factorV d)) (sumV (factorV d) st) (prodV (factorV d) st) (st.r.length+1)):=⟨rfl,by have:=prodV_le (factorV_le d) st;omega,by have:=prod_cnt (factor_cnt d) st;omega⟩
 have HR:=Lib.hid h1
 clear h he hcnt h1
 go_wp2_with fail
 go_loopw [2] (fun _ wr=>∃(st':St) (K:Nat),Hid (RdA w0 S R deep st' wr)∧Hid (LoopAt opS (prodV (factorV d)) (sumV (factorV d) st) st' K)) (fun _ wr=>S.size - atOf R wr)
 case atStart=>exact ⟨_,_,HR,HL⟩
 case round=>
  obtain ⟨st',K,HR',HL'⟩:=hrel
  clear HR HL
  obtain ⟨k,v,h⟩:=HR'.out
  have H:=Lib.hid h
  obtain ⟨c0,c1,c2,c3,c4⟩:=h.cells
  have f1:=h.frozen 1
  have hk300:k≤300:=Nat.le_trans h.k_le hS
  clear h
  by_cases he:st'.e=0
  ·have te:((st'.e:Int)==0)=true:=by rw [he];rfl
   have HE:=Lib.hid he
   clear he
   obtain ⟨c,hc⟩:∃c,hdI st'.r=c:=⟨_,rfl⟩
   have HC:=Lib.hid hc
   by_cases b43:hd st'.r=43
   ·have t43:(c==43)=true:=by rw [←hc,hdI_eq b43];rfl
    have HB:=b43
    have HQ:Hid (opS (hd st'.r)=some 3):=by show _=_;rw [HB];rfl
    have h1:=loop_next rfl (prod_cnt (factor_cnt d)) (prodV_le (factorV_le d)) HL'.out HE.out HQ.out
    have HLN:=Lib.hid h1
    have HNE:Hid (st'.r≠ []):=h1.2.2
    have HCN:Hid ((⟨st'.r.drop 1,st'.ops,0⟩:St).ops.length+(⟨st'.r.drop 1,st'.ops,0⟩:St).r.length≤300):=by
     show st'.ops.length+(st'.r.drop 1).length≤300
     have:=HL'.out.2.2
     rw [List.length_drop];omega
    have HCP:Hid (((prodV (factorV d)) ⟨st'.r.drop 1,st'.ops,0⟩).ops.length≤1000):=by
     show _≤_
     have g1:=(prod_cnt (factor_cnt d)) ⟨st'.r.drop 1,st'.ops,0⟩
     have g2:=HCN.out
     omega
    clear HB hc b43
    clear h1
    go_wp2_with fail
    with_reducible refine (next_c _ H c HC).mono ?_
    rintro e w' ⟨nn,rfl,rfl⟩
    have HN:=Lib.hid ((H.out.drewN nn).next1 HNE.out HE.out).any
    go_wp2_with fail
    with_reducible refine (hF.use (st:=⟨st'.r.drop 1,st'.ops,0⟩) hS hdd HN.out rfl HCN.out).mono ?_
    rintro e w2 ⟨rfl,h2⟩
    go_wp2_with fail
    with_reducible refine (put_c _ h2 HCP.out 3 0).mono ?_
    rintro e w3 ⟨rfl,h3⟩
    go_wp2_with fail
    have HM:Hid (S.size - atOf R w3 < S.size - atOf R wr):=by
     show _ < _
     obtain ⟨k3,v3,h3'⟩:=h3
     rw [atOf_rd h3',atOf_rd H.out]
     have g1:=h3'.len
     have g2:=H.out.len
     have g3:=HLN.out.2.1
     have g4:=List.length_pos_iff.2 HNE.out
     rw [put_r] at g1 g3
     omega
    go_roundw
    case rel=>exact ⟨_,_,h3,HLN.out.1⟩
    case measure=>exact HM.out
   ·have t43:(c==43)=false:=by rw [←hc];exact hdI_ne b43
    by_cases b45:hd st'.r=45
    ·have t45:(c==45)=true:=by rw [←hc,hdI_eq b45];rfl
     have HB:=b45
     have HQ:Hid (opS (hd st'.r)=some 4):=by show _=_;rw [HB];rfl
     have h1:=loop_next rfl (prod_cnt (factor_cnt d)) (prodV_le (factorV_le d)) HL'.out HE.out HQ.out
     have HLN:=Lib.hid h1
     have HNE:Hid (st'.r≠ []):=h1.2.2
     have HCN:Hid ((⟨st'.r.drop 1,st'.ops,0⟩:St).ops.length+(⟨st'.r.drop 1,st'.ops,0⟩:St).r.length≤300):=by
      show st'.ops.length+(st'.r.drop 1).length≤300
      have:=HL'.out.2.2
      rw [List.length_drop];omega
     have HCP:Hid (((prodV (factorV d)) ⟨st'.r.drop 1,st'.ops,0⟩).ops.length≤1000):=by
      show _≤_
      have g1:=(prod_cnt (factor_cnt d)) ⟨st'.r.drop 1,st'.ops,0⟩
      have g2:=HCN.out
      omega
     clear HB hc b45
     clear h1
     go_wp2_with fail
     with_reducible refine (next_c _ H c HC).mono ?_
     rintro e w' ⟨nn,rfl,rfl⟩
     have HN:=Lib.hid ((H.out.drewN nn).next1 HNE.out HE.out).any
     go_wp2_with fail
     with_reducible refine (hF.use (st:=⟨st'.r.drop 1,st'.ops,0⟩) hS hdd HN.out rfl HCN.out).mono ?_
     rintro e w2 ⟨rfl,h2⟩
     go_wp2_with fail
     with_reducible refine (put_c _ h2 HCP.out 4 0).mono ?_
     rintro e w3 ⟨rfl,h3⟩
     go_wp2_with fail
     have HM:Hid (S.size - atOf R w3 < S.size - atOf R wr):=by
      show _ < _
      obtain ⟨k3,v3,h3'⟩:=h3
      rw [atOf_rd h3',atOf_rd H.out]
      have g1:=h3'.len
      have g2:=H.out.len
      have g3:=HLN.out.2.1
      have g4:=List.length_pos_iff.2 HNE.out
      rw [put_r] at g1 g3
      omega
     go_roundw
     case rel=>exact ⟨_,_,h3,HLN.out.1⟩
     case measure=>exact HM.out
    ·have t45:(c==45)=false:=by rw [←hc];exact hdI_ne b45
     have HD:Hid (sumV (factorV d) st=st'):=loop_done HL'.out (fun _=>by unfold opS;simp [b43,b45])
     clear hc b43 b45
     go_wp2_with fail
     with_reducible refine (next_c _ H c HC).mono ?_
     rintro e w' ⟨nn,rfl,rfl⟩
     go_wp2_with fail
     refine bodyPost_ret (results_none rfl _ _ _) rfl ?_
     exact ⟨rfl,by rw [HD.out];exact (H.out.drewN nn).any⟩
  ·have te:((st'.e:Int)==0)=false:=by simp;omega
   have HD:Hid (sumV (factorV d) st=st'):=loop_done HL'.out (fun h=>absurd h he)
   clear he
   go_wp2_with fail
   go_end0
   exact ⟨rfl,by rw [HD.out];exact H.out.any⟩
end Go.Proofs.YtfldplmgkeiimaaGreatDoor.RdW
namespace Go.Proofs.YtfldplmgkeiimaaGreatDoor.RdW
open Go.RowKit Go.Proofs.YtfldplmgkeiimaaGreatDoor.Dp Go.Proofs.YtfldplmgkeiimaaGreatDoor.Base Go.Proofs.YtfldplmgkeiimaaGreatDoor.Ep Go.Proofs.YtfldplmgkeiimaaGreatDoor.Mem
def InnC (d:Nat):Prop:=∀(w0:World) (S:ByteArray) (R deep:Nat) (st:St) (w:World) (c:UInt8) (C:Int),S.size≤300→deep+d=30→RdA w0 S R deep st w→st.e=0→st.ops.length+st.r.length≤300→isSign c=true→Hid (C=(c.toNat:Int))→
 Calls Tryz.prog 328 #[.pointer (some ⟨R,0,none⟩), .int .u8 C] w (Left w0 S R deep (innerV (factorV d) c st))
theorem InnC.use {d:Nat} (hF:InnC d) {w0:World} {S:ByteArray} {R deep:Nat} {st:St} {w:World} {c:UInt8} {C:Int} (hS:S.size≤300) (hd:deep+d=30) (h:RdA w0 S R deep st w) (he:st.e=0) (hc:st.ops.length+st.r.length≤300) (hs:isSign c=true) (hC:Hid (C=(c.toNat:Int))):
 Calls Tryz.prog 328 #[.pointer (some ⟨R,0,none⟩), .int .u8 C] w (Left w0 S R deep (innerV (factorV d) c st)):=hF w0 S R deep st w c C hS hd h he hc hs hC
set_option maxRecDepth 100000 in
set_option maxHeartbeats 1600000 in
theorem inner_c (d:Nat) (hF:FacC d) (hSm:SumC d):InnC d:=by
 intro w0 S R deep st w c C hS hdd h he hcnt hs hC
 rcases sign_cases hs with rfl | rfl | rfl
 ·obtain rfl:C=43:=hC.out
  have HV:Hid (innerV (factorV d) 43 st=factorV d st):=by show _=_;unfold innerV;rw [if_neg (by decide),if_neg (by decide)]
  clear hs hC
  go_enter Tryz.func328,Tryz.ntmps328
  go_wp2_with fail
  with_reducible refine (hF.use hS hdd h he hcnt).mono ?_
  rintro e w1 ⟨rfl,h1⟩
  go_wp2_with fail
  refine bodyPost_ret (results_none rfl _ _ _) rfl ?_
  exact ⟨rfl,by rw [HV.out];exact h1⟩
 ·obtain rfl:C=45:=hC.out
  have HV:Hid (innerV (factorV d) 45 st=put (factorV d st) 7 0):=by show _=_;unfold innerV;rw [if_neg (by decide),if_pos rfl]
  have HP:Hid ((factorV d st).ops.length≤1000):=by show _≤_;have:=factor_cnt d st;omega
  clear hs hC
  go_enter Tryz.func328,Tryz.ntmps328
  go_wp2_with fail
  with_reducible refine (hF.use hS hdd h he hcnt).mono ?_
  rintro e w1 ⟨rfl,h1⟩
  go_wp2_with fail
  with_reducible refine (put_c _ h1 HP.out 7 0).mono ?_
  rintro e w2 ⟨rfl,h2⟩
  go_wp2_with fail
  refine bodyPost_ret (results_none rfl _ _ _) rfl ?_
  exact ⟨rfl,by rw [HV.out];exact h2⟩
 ·obtain rfl:C=40:=hC.out
  obtain ⟨s1,hs1⟩:∃s1,sumV (factorV d) st=s1:=⟨_,rfl⟩
  have HV:Hid (innerV (factorV d) 40 st=shutV s1):=by show _=_;unfold innerV;rw [if_pos rfl,hs1]
  have HS1:=Lib.hid hs1
  clear hs hC hs1
  go_enter Tryz.func328,Tryz.ntmps328
  go_wp2_with fail
  with_reducible refine (hSm.use hS hdd h he hcnt).mono ?_
  rintro e w1 ⟨rfl,h1⟩
  rw [HS1.out] at h1
  obtain ⟨k,v,h1⟩:=h1
  have H1:=Lib.hid h1
  obtain ⟨c0,c1,c2,c3,c4⟩:=h1.cells
  have f1:=h1.frozen 1
  have f4:=h1.frozen 4
  have hk300:k≤300:=Nat.le_trans h1.k_le hS
  clear h h1 he hcnt
  by_cases hz:s1.e=0
  ·have te:((s1.e:Int)==0)=true:=by rw [hz];rfl
   have HZ:=Lib.hid hz
   clear hz
   obtain ⟨c,hc⟩:∃c,hdI s1.r=c:=⟨_,rfl⟩
   have HC:=Lib.hid hc
   by_cases h41:hd s1.r=41
   ·have t41:(c==41)=true:=by rw [←hc,hdI_eq h41];rfl
    have HT:Hid (shutV s1=⟨s1.r.drop 1,s1.ops,0⟩∧s1.r≠ []):=⟨by unfold shutV;rw [if_pos HZ.out,if_pos h41],by intro e;rw [e] at h41;exact absurd h41 (by decide)⟩
    clear hc h41
    go_wp2_with fail
    with_reducible refine (next_c _ H1 c HC).mono ?_
    rintro e w' ⟨nn,rfl,rfl⟩
    have HN:=Lib.hid ((H1.out.drewN nn).next1 HT.out.2 HZ.out).any
    go_wp2_with fail
    go_end0
    exact ⟨rfl,by rw [HV.out,HT.out.1];exact HN.out⟩
   ·have t41:(c==41)=false:=by rw [←hc];exact hdI_ne h41
    have HT:Hid (shutV s1=⟨s1.r,s1.ops,3⟩):=by show _=_;unfold shutV;rw [if_pos HZ.out,if_neg h41]
    clear hc h41
    go_wp2_with fail
    with_reducible refine (next_c _ H1 c HC).mono ?_
    rintro e w' ⟨nn,rfl,rfl⟩
    go_wp2_with fail
    refine bodyPost_ret (results_none rfl _ _ _) rfl ?_
    exact ⟨rfl,by rw [HV.out,HT.out];exact ((H1.out.drewN nn).err 3).any⟩
  ·have te:((s1.e:Int)==0)=false:=by simp;omega
   have HT:Hid (shutV s1=s1):=by show _=_;unfold shutV;rw [if_neg hz]
   clear hz
   go_wp2_with fail
   refine bodyPost_ret (results_none rfl _ _ _) rfl ?_
   exact ⟨rfl,by rw [HV.out,HT.out];exact H1.out.any⟩
theorem factor_leaf {d:Nat} {st:St} (h:isSign (hd st.r)=false):factorV d st=leafV st:=by
 cases d <;>(rw [factorV,if_neg (by rw [h];decide)])
set_option maxRecDepth 100000 in
set_option maxHeartbeats 3200000 in
theorem leaf_c (d:Nat) {w0:World} {S:ByteArray} {R deep:Nat} {st:St} {w:World} (hS:S.size≤300) (h:RdA w0 S R deep st w) (he:st.e=0) (hcnt:st.ops.length+st.r.length≤300) (hs:isSign (hd st.r)=false):
  Calls Tryz.prog 318 #[.pointer (some ⟨R,0,none⟩)] w (Left w0 S R deep (factorV d st)):=by
 rw [factor_leaf hs]
 obtain ⟨k,v,h⟩:=h
 have H:=Lib.hid h
 obtain ⟨c0,c1,c2,c3,c4⟩:=h.cells
 have f4:=h.frozen 4
 have hl:st.ops.length≤1000:=by omega
 obtain ⟨c,hc⟩:∃c,hdI st.r=c:=⟨_,rfl⟩
 have HC:=Lib.hid hc
 have hne:hd st.r≠43∧hd st.r≠45∧hd st.r≠40:=by
  refine ⟨?_,?_,?_⟩<;>(intro e;rw [e] at hs;exact absurd hs (by decide))
 have t43:(c==43)=false:=by rw [←hc];exact hdI_ne hne.1
 have t45:(c==45)=false:=by rw [←hc];exact hdI_ne hne.2.1
 have t40:(c==40)=false:=by rw [←hc];exact hdI_ne hne.2.2
 clear h hcnt hs hne
 by_cases h36:hd st.r=36
 ·have t36:(c==36)=true:=by rw [←hc,hdI_eq h36];rfl
  have HV:Hid (leafV st=varV st):=by show _=_;unfold leafV;rw [if_pos h36]
  have H36:=Lib.hid h36
  clear hc h36
  go_enter Tryz.func318,Tryz.ntmps318
  go_wp2_with fail
  with_reducible refine (next_c _ H c HC).mono ?_
  rintro e w' ⟨nn,rfl,rfl⟩
  go_wp2_with fail
  with_reducible refine (variable_c hS _ (H.out.drewN nn).any he hl H36.out).mono ?_
  rintro e w2 ⟨rfl,h2⟩
  go_wp2_with fail
  go_end0
  exact ⟨rfl,by rw [HV.out];exact h2⟩
 ·have t36:(c==36)=false:=by rw [←hc];exact hdI_ne h36
  by_cases h46:hd st.r=46
  ·have t46:(c==46)=true:=by rw [←hc,hdI_eq h46];rfl
   have HV:Hid (leafV st=numV st):=by show _=_;unfold leafV;rw [if_neg h36,if_pos (by rw [h46];decide)]
   clear hc h36 h46
   go_enter Tryz.func318,Tryz.ntmps318
   go_wp2_with fail
   with_reducible refine (next_c _ H c HC).mono ?_
   rintro e w' ⟨nn,rfl,rfl⟩
   go_wp2_with fail
   with_reducible refine (number_c hS _ (H.out.drewN nn).any he hl).mono ?_
   rintro e w2 ⟨rfl,h2⟩
   go_wp2_with fail
   go_end0
   exact ⟨rfl,by rw [HV.out];exact h2⟩
  ·have t46:(c==46)=false:=by rw [←hc];exact hdI_ne h46
   obtain ⟨b,hb⟩:∃b,isD (hd st.r)=b:=⟨_,rfl⟩
   have HB:Hid ((decide (48≤c) && decide (c≤57))=b):=by
    show _=_
    rw [←hb,←hc]
    unfold isD hdI
    congr 1 <;>(rw [decide_eq_decide];omega)
   cases b with
   | true=>
    have HV:Hid (leafV st=numV st):=by show _=_;unfold leafV;rw [if_neg h36,if_pos (by rw [hb];simp)]
    clear hc h36 h46 hb
    go_enter Tryz.func318,Tryz.ntmps318
    go_wp2_with fail
    with_reducible refine (next_c _ H c HC).mono ?_
    rintro e w' ⟨nn,rfl,rfl⟩
    go_wp2_with fail
    with_reducible refine (digit_c _ true HB _).mono ?_
    rintro e w' ⟨rfl,rfl⟩
    go_wp2_with fail
    with_reducible refine (number_c hS _ (H.out.drewN nn).any he hl).mono ?_
    rintro e w2 ⟨rfl,h2⟩
    go_wp2_with fail
    go_end0
    exact ⟨rfl,by rw [HV.out];exact h2⟩
   | false=>
    have HV:Hid (leafV st=⟨st.r,st.ops,3⟩):=by show _=_;unfold leafV;rw [if_neg h36,if_neg (by rw [hb];simpa using h46)]
    clear hc h36 h46 hb
    go_enter Tryz.func318,Tryz.ntmps318
    go_wp2_with fail
    with_reducible refine (next_c _ H c HC).mono ?_
    rintro e w' ⟨nn,rfl,rfl⟩
    go_wp2_with fail
    with_reducible refine (digit_c _ false HB _).mono ?_
    rintro e w' ⟨rfl,rfl⟩
    go_wp2_with fail
    go_end0
    exact ⟨rfl,by rw [HV.out];exact ((H.out.drewN nn).err 3).any⟩
theorem fac_zero:FacC 0:=by
 intro w0 S R deep st w hS hdd h he hcnt
 by_cases hs:isSign (hd st.r)=true
 ·obtain ⟨k,v,h⟩:=h
  have H:=Lib.hid h
  obtain ⟨c0,c1,c2,c3,c4⟩:=h.cells
  have f4:=h.frozen 4
  obtain ⟨c,hc⟩:∃c,hdI st.r=c:=⟨_,rfl⟩
  have HC:=Lib.hid hc
  obtain rfl:deep=30:=by omega
  have HV:Hid (factorV 0 st=⟨st.r,st.ops,6⟩):=by show _=_;rw [factorV,if_pos hs]
  have HZ:Hid (Left w0 S R 30 (factorV 0 st)=Left w0 S R 30 ⟨st.r,st.ops,6⟩):=by show _=_;rw [HV.out]
  clear h hcnt he
  rcases sign_cases hs with h0 | h0 | h0
  ·skip
   have t43:(c==43)=true:=by rw [←hc,hdI_eq h0];rfl
   clear hc hs h0
   go_enter Tryz.func318,Tryz.ntmps318
   go_wp2_with fail
   with_reducible refine (next_c _ H c HC).mono ?_
   rintro e w' ⟨nn,rfl,rfl⟩
   go_wp2_with fail
   refine bodyPost_ret (results_none rfl _ _ _) rfl ?_
   exact ⟨rfl,by rw [HV.out];exact ((H.out.drewN nn).err 6).any⟩
  ·skip
   have t43:(c==43)=false:=by rw [←hc,hdI_eq h0];rfl
   have t45:(c==45)=true:=by rw [←hc,hdI_eq h0];rfl
   clear hc hs h0
   go_enter Tryz.func318,Tryz.ntmps318
   go_wp2_with fail
   with_reducible refine (next_c _ H c HC).mono ?_
   rintro e w' ⟨nn,rfl,rfl⟩
   go_wp2_with fail
   refine bodyPost_ret (results_none rfl _ _ _) rfl ?_
   exact ⟨rfl,by rw [HV.out];exact ((H.out.drewN nn).err 6).any⟩
  ·skip
   have t43:(c==43)=false:=by rw [←hc,hdI_eq h0];rfl
   have t45:(c==45)=false:=by rw [←hc,hdI_eq h0];rfl
   have t40:(c==40)=true:=by rw [←hc,hdI_eq h0];rfl
   clear hc hs h0
   go_enter Tryz.func318,Tryz.ntmps318
   go_wp2_with fail
   with_reducible refine (next_c _ H c HC).mono ?_
   rintro e w' ⟨nn,rfl,rfl⟩
   go_wp2_with fail
   refine bodyPost_ret (results_none rfl _ _ _) rfl ?_
   exact ⟨rfl,by rw [HV.out];exact ((H.out.drewN nn).err 6).any⟩
 ·exact leaf_c 0 hS h he hcnt (by simpa using hs)
theorem Rd.dive1 {w0 w:World} {S:ByteArray} {R deep k:Nat} {st:St} {v:Value} (h:Rd w0 S R deep st k v w):Rd w0 S R (deep+1) st k v (w.setCell ⟨R,2,none⟩ (.int .i64 ((deep:Int)+1))):=h.dive (deep+1)
set_option maxRecDepth 100000 in
set_option maxHeartbeats 1600000 in
theorem fac_succ (d:Nat) (hI:InnC d):FacC (d+1):=by
 intro w0 S R deep st w hS hdd h he hcnt
 by_cases hs:isSign (hd st.r)=true
 ·obtain ⟨k,v,h⟩:=h
  have H:=Lib.hid h
  obtain ⟨c0,c1,c2,c3,c4⟩:=h.cells
  have f1:=h.frozen 1
  have f2:=h.frozen 2
  have hk300:k≤300:=Nat.le_trans h.k_le hS
  obtain ⟨c,hc⟩:∃c,hdI st.r=c:=⟨_,rfl⟩
  have HC:=Lib.hid hc
  have tdp:((deep:Int)==30)=false:=by simp;omega
  have HV:Hid (factorV (d+1) st=innerV (factorV d) (hd st.r) ⟨st.r.drop 1,st.ops,0⟩):=by show _=_;rw [factorV,if_pos hs,he]
  have HNE:=Lib.hid (sign_ne hs)
  have HE:=Lib.hid he
  have HCN:Hid ((⟨st.r.drop 1,st.ops,0⟩:St).ops.length+(⟨st.r.drop 1,st.ops,0⟩:St).r.length≤300):=by
   show st.ops.length+(st.r.drop 1).length≤300
   rw [List.length_drop];omega
  have hdd':deep+1+d=30:=by omega
  have HSG:=Lib.hid hs
  have HCC:Hid (c=((hd st.r).toNat:Int)):=by show _=_;rw [←hc];rfl
  clear h hcnt he
  rcases sign_cases hs with h0 | h0 | h0
  ·skip
   have t43:(c==43)=true:=by rw [←hc,hdI_eq h0];rfl
   clear hc hs h0
   go_enter Tryz.func318,Tryz.ntmps318
   go_wp2_with fail
   with_reducible refine (next_c _ H c HC).mono ?_
   rintro e w' ⟨nn,rfl,rfl⟩
   have HN:=Lib.hid ((H.out.drewN nn).next1 HNE.out HE.out).dive1.any
   go_wp2_with fail
   with_reducible refine (hI.use hS hdd' HN.out rfl HCN.out HSG.out HCC).mono ?_
   rintro e w2 ⟨rfl,k2,v2,h2⟩
   have H2:=Lib.hid h2
   obtain ⟨d0,d1,d2,d3,d4⟩:=h2.cells
   have g2:=h2.frozen 2
   have HR:=Lib.hid (h2.dive deep).any
   clear h2 c0 c1 c2 c3 c4 f1 f2
   go_wp2_with fail
   go_end0
   exact ⟨rfl,by rw [HV.out];exact HR.out⟩
  ·skip
   have t43:(c==43)=false:=by rw [←hc,hdI_eq h0];rfl
   have t45:(c==45)=true:=by rw [←hc,hdI_eq h0];rfl
   clear hc hs h0
   go_enter Tryz.func318,Tryz.ntmps318
   go_wp2_with fail
   with_reducible refine (next_c _ H c HC).mono ?_
   rintro e w' ⟨nn,rfl,rfl⟩
   have HN:=Lib.hid ((H.out.drewN nn).next1 HNE.out HE.out).dive1.any
   go_wp2_with fail
   with_reducible refine (hI.use hS hdd' HN.out rfl HCN.out HSG.out HCC).mono ?_
   rintro e w2 ⟨rfl,k2,v2,h2⟩
   have H2:=Lib.hid h2
   obtain ⟨d0,d1,d2,d3,d4⟩:=h2.cells
   have g2:=h2.frozen 2
   have HR:=Lib.hid (h2.dive deep).any
   clear h2 c0 c1 c2 c3 c4 f1 f2
   go_wp2_with fail
   go_end0
   exact ⟨rfl,by rw [HV.out];exact HR.out⟩
  ·skip
   have t43:(c==43)=false:=by rw [←hc,hdI_eq h0];rfl
   have t45:(c==45)=false:=by rw [←hc,hdI_eq h0];rfl
   have t40:(c==40)=true:=by rw [←hc,hdI_eq h0];rfl
   clear hc hs h0
   go_enter Tryz.func318,Tryz.ntmps318
   go_wp2_with fail
   with_reducible refine (next_c _ H c HC).mono ?_
   rintro e w' ⟨nn,rfl,rfl⟩
   have HN:=Lib.hid ((H.out.drewN nn).next1 HNE.out HE.out).dive1.any
   go_wp2_with fail
   with_reducible refine (hI.use hS hdd' HN.out rfl HCN.out HSG.out HCC).mono ?_
   rintro e w2 ⟨rfl,k2,v2,h2⟩
   have H2:=Lib.hid h2
   obtain ⟨d0,d1,d2,d3,d4⟩:=h2.cells
   have g2:=h2.frozen 2
   have HR:=Lib.hid (h2.dive deep).any
   clear h2 c0 c1 c2 c3 c4 f1 f2
   go_wp2_with fail
   go_end0
   exact ⟨rfl,by rw [HV.out];exact HR.out⟩
 ·exact leaf_c (d+1) hS h he hcnt (by simpa using hs)
theorem factor_c:∀d,FacC d
 | 0=>fac_zero
 | d+1=>fac_succ d (inner_c d (factor_c d) (sum_c d (product_c d (factor_c d))))
theorem sum_all:SumC 30:=sum_c 30 (product_c 30 (factor_c 30))
end Go.Proofs.YtfldplmgkeiimaaGreatDoor.RdW
namespace Go.Proofs.YtfldplmgkeiimaaGreatDoor.RdW
open Go.RowKit Go.Proofs.YtfldplmgkeiimaaGreatDoor.Dp Go.Proofs.YtfldplmgkeiimaaGreatDoor.Base Go.Proofs.YtfldplmgkeiimaaGreatDoor.Ep Go.Proofs.YtfldplmgkeiimaaGreatDoor.Mem
def ParseOut (l:List (Int × Int)) (a e:Nat) (w:World) (en:Ending) (w':World):Prop:=
 ∃v,en= .returned (.tuple #[v, .int .i64 (a:Int), .int .i64 (e:Int)])∧w'.ownsRow w.heap.size 413 2 v l.length (opVs l)∧Below w.heap.size w w'
theorem own_nil (w:World) (B:Nat):w.ownsRow B 413 2 (.slice none 0 0) ([]:List (Int × Int)).length (opVs []):=⟨rfl, .inl ⟨rfl,rfl⟩⟩
set_option maxRecDepth 100000 in
set_option maxHeartbeats 1600000 in
theorem parse_w (S:ByteArray) (hm:S.size≤maxLen) (w:World) (l:List (Int × Int)) (a e:Nat) (hp:Hid (parseV S.data.toList=(l,a,e))):
  Calls Tryz.prog 222 #[.string S] w (ParseOut l a e w):=by
 unfold maxLen at hm
 have hlen:S.data.toList.length=S.size:=len_list S
 by_cases h300:300 <(S.size:Int)
 ·have hx:=hp.out
  unfold parseV at hx
  rw [if_pos (by omega)] at hx
  simp only [Prod.mk.injEq] at hx
  obtain ⟨rfl,rfl,rfl⟩:=hx
  clear hlen
  go_enter Tryz.func222,Tryz.ntmps222
  go_wp2_with fail
  go_ret3
  exact ⟨_,rfl,own_nil w _,Below.refl _ _⟩
 ·have hS:S.size≤300:=by omega
  obtain ⟨s1,hs1⟩:∃s1,runV S.data.toList=s1:=⟨_,rfl⟩
  have HX:Hid ((if endV s1=0 then (s1.ops,0,0) else ([],S.size - s1.r.length,endV s1))=(l,a,e)):=by
   show _=_
   have hx:=hp.out
   unfold parseV at hx
   rw [if_neg (by omega),hs1,hlen] at hx
   exact hx
  have HS1:Hid (sumV (factorV 30) ⟨S.data.toList, [],0⟩=s1):=hs1
  have HRD:Hid (RdA w S w.heap.size 0 ⟨S.data.toList, [],0⟩ (w.alloc (rdObj S 0 0 (.slice none 0 0) 0))):=
   ⟨0, .slice none 0 0,Nat.zero_le _,rfl,heap_alloc_new w _,⟨rfl, .inl ⟨rfl,rfl⟩⟩,(Below.refl _ _).alloc (Nat.le_refl _) _,Nat.le_refl _⟩
  have HC:Hid ((⟨S.data.toList, [],0⟩:St).ops.length+(⟨S.data.toList, [],0⟩:St).r.length≤300):=by show 0+S.data.toList.length≤300;omega
  clear hs1 hlen hp
  go_enter Tryz.func222,Tryz.ntmps222
  go_wp2_with fail
  with_reducible refine (sum_all.use (st:=⟨S.data.toList, [],0⟩) hS rfl HRD.out rfl HC.out).mono ?_
  rw [HS1.out]
  rintro en w1 ⟨rfl,k,v,h1⟩
  have H1:=Lib.hid h1
  have hks:=h1.k_le
  have HLN:=Lib.hid h1.len
  obtain ⟨c0,c1,c2,c3,c4⟩:=h1.cells
  have f4:=h1.frozen 4
  clear h1
  by_cases hz:s1.e=0
  ·have te:((s1.e:Int)==0)=true:=by rw [hz];rfl
   by_cases hr:k < S.size
   ·have HE:Hid (l= []∧a=k∧e=3):=by
     have hx:=HX.out
     have hrn:s1.r≠ []:=by intro e;have:=HLN.out;rw [e] at this;simp at this;omega
     have h3:endV s1=3:=by unfold endV;rw [if_pos hz,if_neg hrn]
     rw [h3,if_neg (by decide)] at hx
     simp only [Prod.mk.injEq] at hx
     exact ⟨hx.1.symm,by have:=HLN.out;omega,hx.2.2.symm⟩
    obtain ⟨rfl,rfl,rfl⟩:=HE.out
    clear hz HX HS1
    have HB:Hid (Below w.heap.size w (w1.setCell ⟨w.heap.size,4,none⟩ (.int .i64 3))):=H1.out.bel.setCell (Nat.le_refl _) _
    go_wp2_with fail
    go_quiet (fail)
    go_wp2_with fail
    go_ret3
    exact ⟨_,rfl,own_nil _ _,below_drewN HB.out _⟩
   ·have HE:Hid (l=s1.ops∧a=0∧e=0):=by
     have hx:=HX.out
     have hrn:s1.r= []:=by
      have:=HLN.out
      exact List.eq_nil_of_length_eq_zero (by omega)
     have h3:endV s1=0:=by unfold endV;rw [if_pos hz,if_pos hrn]
     rw [h3,if_pos rfl] at hx
     simp only [Prod.mk.injEq] at hx
     exact ⟨hx.1.symm,hx.2.1.symm,hx.2.2.symm⟩
    obtain ⟨rfl,rfl,rfl⟩:=HE.out
    clear hz HX HS1
    go_wp2_with fail
    go_ret3
    exact ⟨v,rfl,H1.out.own,H1.out.bel⟩
  ·have te:((s1.e:Int)==0)=false:=by simp;omega
   have HE:Hid (l= []∧a=k∧e=s1.e):=by
    have hx:=HX.out
    have h3:endV s1=s1.e:=by unfold endV;rw [if_neg hz]
    rw [h3,if_neg hz] at hx
    simp only [Prod.mk.injEq] at hx
    exact ⟨hx.1.symm,by have:=HLN.out;omega,hx.2.2.symm⟩
   obtain ⟨rfl,rfl,rfl⟩:=HE.out
   clear hz HX HS1
   go_wp2_with fail
   go_quiet (fail)
   go_wp2_with fail
   go_ret3
   exact ⟨_,rfl,own_nil _ _,below_drewN H1.out.bel _⟩
end Go.Proofs.YtfldplmgkeiimaaGreatDoor.RdW
