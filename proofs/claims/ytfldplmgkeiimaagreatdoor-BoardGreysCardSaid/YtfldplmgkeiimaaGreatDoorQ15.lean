/-
  Several texts of this proof in one: HnW, Uq, HoW.
-/
import Derived.Test.YtfldplmgkeiimaaGreatDoorQ14
import Derived.Test.YtfldplmgkeiimaaGreatDoorQ13
import Derived.Test.YtfldplmgkeiimaaGreatDoorQ3
set_option linter.unusedVariables false
set_option linter.unusedSimpArgs false
namespace Go.Proofs.YtfldplmgkeiimaaGreatDoor.UnitW
open Go.RowKit Go.Proofs.YtfldplmgkeiimaaGreatDoor.Dp Go.Proofs.YtfldplmgkeiimaaGreatDoor.Base Go.Proofs.YtfldplmgkeiimaaGreatDoor.DeciW Go.Proofs.YtfldplmgkeiimaaGreatDoor.Up
abbrev fmtVal (u i d:Int) (t:Bool):Value:= .agg #[.int .i64 u, .int .i64 i, .int .i64 d, .bool t]
abbrev fmtObj (u i d:Int) (t:Bool):Obj:= .cells #[.int .i64 u, .int .i64 i, .int .i64 d, .bool t] 161
set_option maxHeartbeats 400000 in
theorem grains_any (u:Int) (w:World):Calls Tryz.prog 188 #[.int .i64 u] w fun e w'=>e= .returned (.int .i64 (per u))∧w=w':=by
 go_enter Tryz.func188,Tryz.ntmps188
 by_cases h1:u=1
 ·subst h1
  go_wp2
  go_ret
  exact ⟨rfl,rfl⟩
 ·by_cases h2:u=2
  ·subst h2
   go_wp2
   go_ret
   exact ⟨rfl,rfl⟩
  ·have hp:per u=0:=by simp [per,h1,h2]
   have HP:=Lib.hid hp
   have b1:(u==1)=false:=by simp [h1]
   have b2:(u==2)=false:=by simp [h2]
   clear hp
   go_wp2
   go_ret
   rw [HP.out];exact ⟨rfl,rfl⟩
theorem grains_at (u p:Int) (hp:Hid (per u=p)) (w:World):Calls Tryz.prog 188 #[.int .i64 u] w fun e w'=>e= .returned (.int .i64 p)∧w=w':=by
 have:=hp.out;subst this;exact grains_any u w
theorem ret_i {k:IntKind} {a b:Int} (h:a=b):Ending.returned (.int k a)= .returned (.int k b):=by rw [h]
set_option maxHeartbeats 400000 in
theorem tens_any (n:Int) (k:Nat) (hk:k≤18) (hb:n.natAbs *10 ^ k≤1000000000000000000) (v:Int) (hv:Hid (n *((10 ^ k:Nat):Int)=v)) (w:World):
  Calls Tryz.prog 186 #[.int .i64 n, .int .i64 k] w fun e w'=>e= .returned (.int .i64 v)∧w=w':=by
 have HB:=Lib.hid hb
 clear hb
 go_enter Tryz.func186,Tryz.ntmps186
 go_wp2
 go_loop [0,6] (fun v i=>∃(j:Nat) (x:Int),j≤k∧x=n *((10 ^ j:Nat):Int)∧i= .int .i64 j∧v= .int .i64 x) (fun _ i=>k -(intOf i).toNat)
 case atStart=>exact ⟨0,n,Nat.zero_le _,by simp,rfl,rfl⟩
 case round=>
  obtain ⟨j,x,hj,hx,rfl,rfl⟩:=hrel
  by_cases hlt:j < k
  ·have hb1:x.natAbs *10≤1000000000000000000:=by
    have h1:x.natAbs=n.natAbs *10 ^ j:=by rw [hx,Int.natAbs_mul,Int.natAbs_natCast]
    rw [h1,Nat.mul_assoc,←Nat.pow_succ]
    exact Nat.le_trans (Nat.mul_le_mul_left _ (Nat.pow_le_pow_right (by decide) hlt)) HB.out
   have hb2:-100000000000000000≤x:=by omega
   have hb3:x≤100000000000000000:=by omega
   have HX:Hid (x *10=n *((10 ^(j+1):Nat):Int)):=by
    show _=_
    rw [hx,Nat.pow_succ,Int.natCast_mul,Int.mul_assoc];rfl
   clear hx hb1
   go_wp2
   go_round
   case rel=>exact ⟨j+1,x *10,by omega,HX.out,by go_num,rfl⟩
   case measure=>simp [intOf];omega
  ·obtain rfl:j=k:=by omega
   have HX:=Lib.hid hx
   clear hx
   go_wp2
   go_ret
   exact ⟨ret_i (HX.out.trans hv.out),rfl⟩
theorem tens_at (n:Int) (i:Int) (k:Nat) (hi:i=k) (hk:k≤18) (hb:n.natAbs *10 ^ k≤1000000000000000000) (v:Int) (hv:Hid (n *((10 ^ k:Nat):Int)=v)) (w:World):
  Calls Tryz.prog 186 #[.int .i64 n, .int .i64 i] w fun e w'=>e= .returned (.int .i64 v)∧w=w':=by
 subst hi;exact tens_any n k hk hb v hv w
set_option maxHeartbeats 800000 in
theorem uok_any (u i d:Int) (t:Bool) (w:World):Calls Tryz.prog 140 #[fmtVal u i d t] w fun e w'=>e= .returned (.bool (fmtOk u i d))∧w.alloc (fmtObj u i d t)=w':=by
 cases hf:fmtOk u i d with
 | true=>
  obtain ⟨h1,h2,h3,h4,h5,h6⟩:=(fmtOk_iff u i d).1 hf
  clear hf
  rcases h1 with rfl | rfl
  all_goals
   go_enter Tryz.func140,Tryz.ntmps140
   by_cases h7:0 < i
   ·go_wp2
    go_ret
    exact ⟨rfl,rfl⟩
   ·have h8:0 < d:=by omega
    go_wp2
    go_ret
    exact ⟨rfl,rfl⟩
 | false=>
  have hn:¬((u=1∨u=2)∧0≤i∧i≤6∧0≤d∧d≤6∧0 < i+d):=fun h=>by rw [(fmtOk_iff u i d).2 h] at hf;cases hf
  clear hf
  by_cases h1:u=1∨u=2
  ·have hn2:¬(0≤i∧i≤6∧0≤d∧d≤6∧0 < i+d):=fun h=>hn ⟨h1,h⟩
   clear hn
   rcases h1 with rfl | rfl
   all_goals
    by_cases c1:0≤i
    ·by_cases c2:i≤6
     ·by_cases c3:0≤d
      ·by_cases c4:d≤6
       ·have c5:¬0 < i:=by omega
        have c6:¬0 < d:=by omega
        clear hn2
        go_enter Tryz.func140,Tryz.ntmps140
        go_wp2
        go_ret
        exact ⟨rfl,rfl⟩
       ·clear hn2
        go_enter Tryz.func140,Tryz.ntmps140
        go_wp2
        go_ret
        exact ⟨rfl,rfl⟩
      ·clear hn2
       go_enter Tryz.func140,Tryz.ntmps140
       go_wp2
       go_ret
       exact ⟨rfl,rfl⟩
     ·clear hn2
      go_enter Tryz.func140,Tryz.ntmps140
      go_wp2
      go_ret
      exact ⟨rfl,rfl⟩
    ·clear hn2
     go_enter Tryz.func140,Tryz.ntmps140
     go_wp2
     go_ret
     exact ⟨rfl,rfl⟩
  ·clear hn
   have b1:(u==1)=false:=by simp;omega
   have b2:(u==2)=false:=by simp;omega
   have b3:(u !=1)=true:=by simp;omega
   have b4:(u !=2)=true:=by simp;omega
   clear h1
   go_enter Tryz.func140,Tryz.ntmps140
   go_wp2
   go_ret
   exact ⟨rfl,rfl⟩
theorem uok_at (u i d:Int) (t:Bool) (b:Bool) (hb:Hid (fmtOk u i d=b)) (w:World):Calls Tryz.prog 140 #[fmtVal u i d t] w fun e w'=>e= .returned (.bool b)∧w.alloc (fmtObj u i d t)=w':=by
 have:=hb.out;subst this;exact uok_any u i d t w
theorem okN_bound {n:Int} (h:okN n=true):-1000000000000 < n∧n < 1000000000000:=(okN_iff n).1 h
set_option maxHeartbeats 800000 in
theorem grain_any (n u:Int) (w:World):
  Calls Tryz.prog 150 #[.int .i64 n, .int .i64 u] w fun e w'=>e= .returned (.tuple #[.int .i64 ((grainV n u).getD 0), .bool (grainV n u).isSome])∧w=w':=by
 cases hok:okN n with
 | false=>
  have hg:grainV n u=none:=by unfold grainV;rw [if_neg];rintro ⟨h,_⟩;rw [hok] at h;cases h
  have HG:=Lib.hid hg
  have HOK:=Lib.hid hok
  clear hg hok
  go_enter Tryz.func150,Tryz.ntmps150
  go_wp2_with fail
  refine (grains_any u _).mono ?_
  rintro e w' ⟨rfl,rfl⟩
  generalize per u=p
  go_wp2_with fail
  refine (ok_any n _).mono ?_
  rintro e w' ⟨rfl,rfl⟩
  rw [HOK.out]
  go_wp2_with fail
  go_ret2
  rw [HG.out];exact ⟨rfl,rfl⟩
 | true=>
  have hb:=okN_bound hok
  obtain ⟨hb1,hb2⟩:=hb
  by_cases hu:u=1∨u=2
  ·have hp:=per_cases hu
   obtain ⟨p,hpp⟩:∃p,per u=p:=⟨_,rfl⟩
   rw [hpp] at hp
   have HP:=Lib.hid hpp
   have HOK:=Lib.hid hok
   by_cases hr:-536870912≤n *p∧n *p≤536870912
   ·have hg:grainV n u=some (n *p):=by unfold grainV;rw [hpp,if_pos ⟨hok,hu,hr⟩]
    have HG:=Lib.hid hg
    obtain ⟨r1,r2⟩:=hr
    clear hg hok hpp hu
    rcases hp with rfl | rfl
    all_goals
     go_enter Tryz.func150,Tryz.ntmps150
     go_wp2_with fail
     refine (grains_at u _ HP _).mono ?_
     rintro e w' ⟨rfl,rfl⟩
     go_wp2_with fail
     refine (ok_any n _).mono ?_
     rintro e w' ⟨rfl,rfl⟩
     rw [HOK.out]
     go_wp2_with fail
     go_ret2
     rw [HG.out];exact ⟨rfl,rfl⟩
   ·have hg:grainV n u=none:=by unfold grainV;rw [hpp,if_neg];rintro ⟨_,_,h⟩;exact hr h
    have HG:=Lib.hid hg
    clear hg hok hpp hu
    by_cases r1:-536870912≤n *p
    ·have r2:¬n *p≤536870912:=fun h=>hr ⟨r1,h⟩
     clear hr
     rcases hp with rfl | rfl
     all_goals
      go_enter Tryz.func150,Tryz.ntmps150
      go_wp2_with fail
      refine (grains_at u _ HP _).mono ?_
      rintro e w' ⟨rfl,rfl⟩
      go_wp2_with fail
      refine (ok_any n _).mono ?_
      rintro e w' ⟨rfl,rfl⟩
      rw [HOK.out]
      go_wp2_with fail
      go_ret2
      rw [HG.out];exact ⟨rfl,rfl⟩
    ·clear hr
     rcases hp with rfl | rfl
     all_goals
      go_enter Tryz.func150,Tryz.ntmps150
      go_wp2_with fail
      refine (grains_at u _ HP _).mono ?_
      rintro e w' ⟨rfl,rfl⟩
      go_wp2_with fail
      refine (ok_any n _).mono ?_
      rintro e w' ⟨rfl,rfl⟩
      rw [HOK.out]
      go_wp2_with fail
      go_ret2
      rw [HG.out];exact ⟨rfl,rfl⟩
  ·have hg:grainV n u=none:=by unfold grainV;rw [if_neg];rintro ⟨_,h,_⟩;exact hu h
   have hp:per u=0:=by unfold per;rw [if_neg (fun h=>hu (.inl h)),if_neg (fun h=>hu (.inr h))]
   have HG:=Lib.hid hg
   have HP:=Lib.hid hp
   have HOK:=Lib.hid hok
   clear hg hok hp hu
   go_enter Tryz.func150,Tryz.ntmps150
   go_wp2_with fail
   refine (grains_at u _ HP _).mono ?_
   rintro e w' ⟨rfl,rfl⟩
   go_wp2_with fail
   refine (ok_any n _).mono ?_
   rintro e w' ⟨rfl,rfl⟩
   rw [HOK.out]
   go_wp2_with fail
   go_ret2
   rw [HG.out];exact ⟨rfl,rfl⟩
theorem grain_at (n u v:Int) (b:Bool) (hv:Hid ((grainV n u).getD 0=v∧(grainV n u).isSome=b)) (w:World):
  Calls Tryz.prog 150 #[.int .i64 n, .int .i64 u] w fun e w'=>e= .returned (.tuple #[.int .i64 v, .bool b])∧w=w':=by
 obtain ⟨h1,h2⟩:=hv.out
 subst h1;subst h2;exact grain_any n u w
end Go.Proofs.YtfldplmgkeiimaaGreatDoor.UnitW
namespace Go.Proofs.YtfldplmgkeiimaaGreatDoor.Up
open Go.Proofs.YtfldplmgkeiimaaGreatDoor.Dp
open Go.Lib (decDigits nDigits trimRightB dg)
def millV (l:List UInt8) (size d:Nat) (t:Bool):Nat:=val l *(if t then 10 ^(size - l.length) else 1) *10 ^(6 - d)
theorem coordV_no {l:List UInt8} {u i d:Int} {t:Bool} (h:¬(fmtOk u i d=true∧1≤(strip l).2.length∧((strip l).2.length:Int)≤i+d∧nd (strip l).2=(strip l).2.length)):coordV l u i d t=none:=by
 unfold coordV;rw [if_neg h]
theorem coordV_yes {l:List UInt8} {u:Int} {I D:Nat} {t:Bool} (h:fmtOk u I D=true∧1≤(strip l).2.length∧((strip l).2.length:Int)≤(I:Int)+D∧nd (strip l).2=(strip l).2.length):
  coordV l u I D t=grainV (if (strip l).1 then -((millV (strip l).2 (I+D) D t:Nat):Int) else ((millV (strip l).2 (I+D) D t:Nat):Int)) u:=by
 unfold coordV;rw [if_pos h];rfl
theorem val_size {l:List UInt8} (h:nd l=l.length):val l < 10 ^ l.length:=by
 have:=val_take_lt l l.length (by omega)
 rwa [List.take_length] at this
theorem fits_iff {v size:Nat} (hs:1≤size):nDigits v≤size↔v < 10 ^ size:=by
 constructor
 ·intro h
  have h1:=Lib.lt_pow_nDigits v
  have h2:10 ^ nDigits v≤10 ^ size:=Nat.pow_le_pow_right (by decide) h
  omega
 ·intro h;exact nDigits_le_of_lt size v h hs
theorem num_length {v size:Nat} {t:Bool} (hs:1≤size) (h:v < 10 ^ size):1≤(numL' v size t).length∧(numL' v size t).length≤size:=by
 unfold numL'
 split
 ·split
  ·exact ⟨Nat.le_refl _,hs⟩
  ·rename_i hne
   have h1:=trimRightB_length (pad v size) 48
   rw [pad_length] at h1
   refine ⟨?_,h1⟩
   cases hx:trimRightB (pad v size) 48 with
   | nil=>exact absurd hx hne
   | cons _ _=>simp
 ·rw [Lib.decDigits_length]
  exact ⟨Lib.nDigits_pos v,(fits_iff hs).2 h⟩
end Go.Proofs.YtfldplmgkeiimaaGreatDoor.Up
namespace Go.Proofs.YtfldplmgkeiimaaGreatDoor.UnitW
open Go.RowKit Go.Proofs.YtfldplmgkeiimaaGreatDoor.Dp Go.Proofs.YtfldplmgkeiimaaGreatDoor.Base Go.Proofs.YtfldplmgkeiimaaGreatDoor.DeciW Go.Proofs.YtfldplmgkeiimaaGreatDoor.Up
set_option maxRecDepth 100000 in
set_option maxHeartbeats 1600000 in
theorem coord_any (s:ByteArray) (u i d:Int) (t:Bool) (hs:s.size≤9223372036854775807) (w:World):
  Calls Tryz.prog 146 #[.string s,fmtVal u i d t] w fun e w'=>e= .returned (.tuple #[.int .i64 ((coordV s.data.toList u i d t).getD 0), .bool (coordV s.data.toList u i d t).isSome])∧Below w.heap.size w w':=by
 cases hf:fmtOk u i d with
 | false=>
  have hN:coordV s.data.toList u i d t=none:=coordV_no (fun h=>by rw [hf] at h;cases h.1)
  have HN:=Lib.hid hN
  have HF:=Lib.hid hf
  clear hN hf
  go_enter Tryz.func146,Tryz.ntmps146
  go_wp2_with fail
  refine (uok_at u i d t false HF _).mono ?_
  rintro e w' ⟨rfl,rfl⟩
  go_wp2_with fail
  go_ret2
  rw [HN.out]
  exact ⟨rfl,((Below.refl _ _).alloc (Nat.le_refl _) _).alloc (by simp) _⟩
 | true=>
  have hfb:=(fmtOk_iff u i d).1 hf
  obtain ⟨I,rfl⟩:∃I:Nat,i=I:=⟨i.toNat,by omega⟩
  obtain ⟨D,rfl⟩:∃D:Nat,d=D:=⟨d.toNat,by omega⟩
  have hI:I≤6:=by omega
  have hD:D≤6:=by omega
  have HF:=Lib.hid hf
  clear hf hfb
  go_enter Tryz.func146,Tryz.ntmps146
  go_wp2_with fail
  refine (uok_at u I D t true HF _).mono ?_
  rintro e w' ⟨rfl,rfl⟩
  go_upto_region 4 with fail
  go_cut [24] (fun c wx=>c= .bool (sgn s.data.toList)∧(w.alloc (fmtObj u I D t)).alloc (fmtObj u I D t)=wx)
  case first=>
   by_cases h0:0 < s.size
   ·have HB:=Lib.hid (sgn_of s h0)
    have hne:s.toList.isEmpty=false:=by rw [Lib.toList_data,head_of s h0];rfl
    have hne2:¬s.toList= []:=by intro h;rw [h] at hne;cases hne
    by_cases h43:s[0].toNat=43
    all_goals
     go_wp2
     go_meet
     refine ⟨congrArg Value.bool ?_,rfl⟩
     rw [HB.out]
     simp [h43,byteq45]
     try omega
   ·have HB:=Lib.hid (sgn_no s h0)
    have hne:s.toList= []:=by rw [Lib.toList_data];exact list_nil s h0
    go_wp2
    go_meet
    exact ⟨congrArg Value.bool HB.out.symm,rfl⟩
  case rest=>
   obtain ⟨rfl,rfl⟩:=hcut
   go_upto_if 24 with fail
   go_cut [0,6] (fun a b wx=>∃T:ByteArray,a= .string T∧T.size≤9223372036854775807∧T.data.toList=(strip s.data.toList).2∧b= .bool (strip s.data.toList).1∧(w.alloc (fmtObj u I D t)).alloc (fmtObj u I D t)=wx)
   case first=>
    cases hg:sgn s.data.toList with
    | true=>
     have h0:=sgn_pos hg
     have HS:=Lib.hid (strip_yes s h0 hg)
     clear hg
     go_wp2
     go_meet
     rw [HS.out]
     exact ⟨_,rfl,by simp;omega,drop1 s,congrArg Value.bool (byteq45 _),rfl⟩
    | false=>
     have HS:=Lib.hid (strip_no hg)
     clear hg
     go_wp2
     go_meet
     rw [HS.out]
     exact ⟨_,rfl,hs,rfl,rfl,rfl⟩
   case rest=>
    obtain ⟨T,rfl,ht,hl,rfl,rfl⟩:=hcut
    have hbel:Below w.heap.size w ((w.alloc (fmtObj u I D t)).alloc (fmtObj u I D t)):=((Below.refl _ _).alloc (Nat.le_refl _) _).alloc (by simp) _
    have HBL:=Lib.hid hbel
    clear hbel
    obtain ⟨l,hl'⟩:∃l,T.data.toList=l:=⟨_,rfl⟩
    have hlen:l.length=T.size:=by rw [←hl'];simp
    have hls:(strip s.data.toList).2=l:=by rw [←hl,hl']
    by_cases h1:1≤T.size
    ·by_cases h2:T.size≤I+D
     ·by_cases h3:nd l=l.length
      ·have hyes:=coordV_yes (t:=t) ⟨HF.out,by rw [hls];omega,by rw [hls];omega,by rw [hls];exact h3⟩
       rw [hls] at hyes
       have hv:=val_size h3
       have hval1:val l < 10 ^ T.size:=by rw [←hlen];exact hv
       have HY:=Lib.hid hyes
       have H3:=Lib.hid h3
       have HL:=Lib.hid hl'
       have HV:=Lib.hid hval1
       have HLEN:=Lib.hid hlen
       clear hyes h3 hl hl' hv hval1 hls hlen
       generalize (strip s.data.toList).1=b at HY⊢
       go_wp2_with fail
       go_loop [8,46] (fun v i=>∃(k:Nat) (x:Int),k≤T.size∧0≤x∧x < 1000000000000∧x=val (l.take k)∧i= .int .i64 k∧v= .int .i64 x) (fun _ i=>T.size -(intOf i).toNat)
       case atStart=>exact ⟨0,0,Nat.zero_le _,by omega,by omega,rfl,rfl,rfl⟩
       case round=>
        obtain ⟨k,x,hk,hx0,hx1,hx,rfl,rfl⟩:=hrel
        by_cases hlt:k < T.size
        ·have hdig:isD T[k]=true:=by
          have h4:=(nd_spec l).1 k (by rw [HLEN.out];exact hlt) (by rw [H3.out,HLEN.out];exact hlt)
          have:T.data.toList[k]'(by simpa using hlt)=T[k]:=getl T k hlt
          rw [←this]
          have e:∀(m:List UInt8) (h:k < m.length),m=l→isD m[k]=true:=by intro m h hm;subst hm;exact h4
          exact e _ _ HL.out
         obtain ⟨hc1,hc2⟩:=(isD_iff T[k]).1 hdig
         have hvl:=val_take_lt l k (by rw [H3.out,HLEN.out];omega)
         have hp:(10:Nat)^ k≤10 ^ 11:=Nat.pow_le_pow_right (by decide) (by omega)
         have hxb:x < 100000000000:=by omega
         have HS:Hid (val (l.take (k+1))=val (l.take k) *10+(T[k].toNat - 48)):=by
          show _=_
          rw [←HL.out,take_snoc T k hlt];exact val_snoc _ _
         have HX:=Lib.hid hx
         have e1:¬T[k].toNat < 48:=by omega
         have e2:¬57 < T[k].toNat:=by omega
         clear hx hvl hp hdig
         go_wp2
         go_round
         case rel=>exact ⟨k+1,x *10+(T[k].toNat - 48),by omega,by omega,by omega,by rw [HS.out,HX.out];omega,by go_num,by go_num⟩
         case measure=>simp [intOf];omega
        ·obtain rfl:k=T.size:=by omega
         have hxv:x=(val l:Nat):=by rw [hx,List.take_of_length_le (by rw [HLEN.out];exact Nat.le_refl _)]
         have hxb:x.natAbs < 10 ^ T.size:=by rw [hxv,Int.natAbs_natCast];exact HV.out
         have HXV:=Lib.hid hxv
         have hx12:x.natAbs≤1000000000000:=by omega
         clear hx hxv
         have fin:∀m:Int,0≤m→m=((millV l (I+D) D t:Nat):Int)→∃(v:Int) (o:Bool),((grainV (if b then -m else m) u).getD 0=v∧(grainV (if b then -m else m) u).isSome=o)∧(coordV s.data.toList u I D t).getD 0=v∧(coordV s.data.toList u I D t).isSome=o:=by
          intro m _ hm
          refine ⟨_,_,⟨rfl,rfl⟩,?_⟩
          rw [HY.out,hm];exact ⟨rfl,rfl⟩
         have FIN:=Lib.hid fin
         clear fin
         cases t with
         | true=>
          obtain ⟨y,hy⟩:∃y:Int,x *((10 ^(I+D - T.size):Nat):Int)=y:=⟨_,rfl⟩
          obtain ⟨z,hz⟩:∃z:Int,y *((10 ^(6 - D):Nat):Int)=z:=⟨_,rfl⟩
          have hyb:y.natAbs < 10 ^(I+D):=by
           rw [←hy,Int.natAbs_mul,Int.natAbs_natCast]
           have:=Nat.mul_lt_mul_of_pos_right hxb (Nat.pow_pos (n:=I+D - T.size) (show 0 < 10 by decide))
           rwa [←Nat.pow_add,show T.size+(I+D - T.size)=I+D by omega] at this
          have hzb:z.natAbs < 10 ^(I+6):=by
           rw [←hz,Int.natAbs_mul,Int.natAbs_natCast]
           have:=Nat.mul_lt_mul_of_pos_right hyb (Nat.pow_pos (n:=6 - D) (show 0 < 10 by decide))
           rwa [←Nat.pow_add,show I+D+(6 - D)=I+6 by omega] at this
          have hb1:x.natAbs *10 ^(I+D - T.size)≤1000000000000000000:=by
           have h1:x.natAbs *10 ^(I+D - T.size)=y.natAbs:=by rw [←hy,Int.natAbs_mul,Int.natAbs_natCast]
           have h2:=pow_le12 (I+D) (by omega)
           omega
          have hb2:y.natAbs *10 ^(6 - D)≤1000000000000000000:=by
           have h1:y.natAbs *10 ^(6 - D)=z.natAbs:=by rw [←hz,Int.natAbs_mul,Int.natAbs_natCast]
           have h2:=pow_le12 (I+6) (by omega)
           omega
          have hz12:=pow_le12 (I+6) (by omega)
          have hz0:0≤z:=by
           rw [←hz,←hy]
           exact Int.mul_nonneg (Int.mul_nonneg hx0 (Int.natCast_nonneg _)) (Int.natCast_nonneg _)
          have hz1:z≤1000000000000:=by omega
          have hzm:z=((millV l (I+D) D true:Nat):Int):=by
           unfold millV
           rw [if_pos rfl,←hz,←hy,HXV.out,HLEN.out,Int.natCast_mul,Int.natCast_mul]
          obtain ⟨v,o,hv1,hv2,hv3⟩:=FIN.out z hz0 hzm
          have HVV:=Lib.hid hv1
          have HV2:=Lib.hid hv2
          have HV3:=Lib.hid hv3
          have HYY:=Lib.hid hy
          have HZZ:=Lib.hid hz
          have HB1:=Lib.hid hb1
          have HB2:=Lib.hid hb2
          clear hy hz hyb hzb hb1 hb2 hz12 hzm hv1 hv2 hv3 hxb hx12
          go_wp2_with fail
          refine (tens_at x _ (I+D - T.size) (by omega) (by omega) HB1.out y HYY _).mono ?_
          rintro e w' ⟨rfl,rfl⟩
          go_wp2_with fail
          refine (tens_at y _ (6 - D) (by omega) (by omega) HB2.out z HZZ _).mono ?_
          rintro e w' ⟨rfl,rfl⟩
          cases b with
          | true=>
           have HVW:Hid ((grainV (-z) u).getD 0=v∧(grainV (-z) u).isSome=o):=HVV.out
           go_wp2_with fail
           with_reducible refine (grain_at _ u v o HVW _).mono ?_
           rintro e w' ⟨rfl,rfl⟩
           go_wp2_with fail
           go_ret2
           rw [HV2.out,HV3.out]
           exact ⟨rfl,HBL.out⟩
          | false=>
           have HVW:Hid ((grainV z u).getD 0=v∧(grainV z u).isSome=o):=HVV.out
           go_wp2_with fail
           with_reducible refine (grain_at _ u v o HVW _).mono ?_
           rintro e w' ⟨rfl,rfl⟩
           go_wp2_with fail
           go_ret2
           rw [HV2.out,HV3.out]
           exact ⟨rfl,HBL.out⟩
         | false=>
          obtain ⟨z,hz⟩:∃z:Int,x *((10 ^(6 - D):Nat):Int)=z:=⟨_,rfl⟩
          have hzb:z.natAbs < 10 ^(I+6):=by
           rw [←hz,Int.natAbs_mul,Int.natAbs_natCast]
           have h1:=Nat.mul_lt_mul_of_pos_right hxb (Nat.pow_pos (n:=6 - D) (show 0 < 10 by decide))
           rw [←Nat.pow_add] at h1
           exact Nat.lt_of_lt_of_le h1 (Nat.pow_le_pow_right (by decide) (by omega))
          have hb2:x.natAbs *10 ^(6 - D)≤1000000000000000000:=by
           have h1:x.natAbs *10 ^(6 - D)=z.natAbs:=by rw [←hz,Int.natAbs_mul,Int.natAbs_natCast]
           have h2:=pow_le12 (I+6) (by omega)
           omega
          have hz12:=pow_le12 (I+6) (by omega)
          have hz0:0≤z:=by
           rw [←hz]
           exact Int.mul_nonneg hx0 (Int.natCast_nonneg _)
          have hz1:z≤1000000000000:=by omega
          have hzm:z=((millV l (I+D) D false:Nat):Int):=by
           unfold millV
           rw [if_neg (by decide),←hz,HXV.out,Int.natCast_mul,Nat.mul_one]
          obtain ⟨v,o,hv1,hv2,hv3⟩:=FIN.out z hz0 hzm
          have HVV:=Lib.hid hv1
          have HV2:=Lib.hid hv2
          have HV3:=Lib.hid hv3
          have HZZ:=Lib.hid hz
          have HB2:=Lib.hid hb2
          clear hz hzb hb2 hz12 hzm hv1 hv2 hv3 hxb hx12
          go_wp2_with fail
          refine (tens_at x _ (6 - D) (by omega) (by omega) HB2.out z HZZ _).mono ?_
          rintro e w' ⟨rfl,rfl⟩
          cases b with
          | true=>
           have HVW:Hid ((grainV (-z) u).getD 0=v∧(grainV (-z) u).isSome=o):=HVV.out
           go_wp2_with fail
           with_reducible refine (grain_at _ u v o HVW _).mono ?_
           rintro e w' ⟨rfl,rfl⟩
           go_wp2_with fail
           go_ret2
           rw [HV2.out,HV3.out]
           exact ⟨rfl,HBL.out⟩
          | false=>
           have HVW:Hid ((grainV z u).getD 0=v∧(grainV z u).isSome=o):=HVV.out
           go_wp2_with fail
           with_reducible refine (grain_at _ u v o HVW _).mono ?_
           rintro e w' ⟨rfl,rfl⟩
           go_wp2_with fail
           go_ret2
           rw [HV2.out,HV3.out]
           exact ⟨rfl,HBL.out⟩
      ·have hno:coordV s.data.toList u I D t=none:=coordV_no (fun h=>h3 (by have:=h.2.2.2;rwa [hls] at this))
       have HNO:=Lib.hid hno
       have hnl:=nd_le l
       have hlt0:nd l < T.size:=by omega
       have HL:=Lib.hid hl'
       have HLEN:=Lib.hid hlen
       clear hno h3 hl hl' hls hlen hnl
       generalize (strip s.data.toList).1=b
       go_wp2_with fail
       go_loop [8,46] (fun v i=>∃(k:Nat) (x:Int),k≤nd l∧0≤x∧x < 1000000000000∧x=val (l.take k)∧i= .int .i64 k∧v= .int .i64 x) (fun _ i=>T.size -(intOf i).toNat)
       case atStart=>exact ⟨0,0,Nat.zero_le _,by omega,by omega,rfl,rfl,rfl⟩
       case round=>
        obtain ⟨k,x,hk,hx0,hx1,hx,rfl,rfl⟩:=hrel
        have hkT:k < T.size:=by omega
        have hget:∀(m:List UInt8) (h:k < m.length),m=l→(k < nd l→isD m[k]=true)∧(nd l=k→isD m[k]=false):=by
         intro m h hm;subst hm
         exact ⟨fun h4=>(nd_spec m).1 k h h4,fun h4=>by
          have:=(nd_spec m).2 (by omega)
          simpa [h4] using this⟩
        have hg:=hget T.data.toList (by simpa using hkT) HL.out
        rw [getl T k hkT] at hg
        by_cases hlt:k < nd l
        ·obtain ⟨hc1,hc2⟩:=(isD_iff T[k]).1 (hg.1 hlt)
         have hvl:=val_take_lt l k (by omega)
         have hp:(10:Nat)^ k≤10 ^ 11:=Nat.pow_le_pow_right (by decide) (by omega)
         have hxb:x < 100000000000:=by omega
         have HS:Hid (val (l.take (k+1))=val (l.take k) *10+(T[k].toNat - 48)):=by
          show _=_
          rw [←HL.out,take_snoc T k hkT];exact val_snoc _ _
         have HX:=Lib.hid hx
         have e1:¬T[k].toNat < 48:=by omega
         have e2:¬57 < T[k].toNat:=by omega
         clear hx hvl hp hg hget
         go_wp2
         go_round
         case rel=>exact ⟨k+1,x *10+(T[k].toNat - 48),by omega,by omega,by omega,by rw [HS.out,HX.out];omega,by go_num,by go_num⟩
         case measure=>simp [intOf];omega
        ·have hc:=(isD_false T[k]).1 (hg.2 (by omega))
         clear hx hg hget
         rcases hc with hc | hc
         ·go_wp2
          go_ret2
          rw [HNO.out]
          exact ⟨rfl,HBL.out⟩
         ·have e1:¬T[k].toNat < 48:=by omega
          go_wp2
          go_ret2
          rw [HNO.out]
          exact ⟨rfl,HBL.out⟩
     ·have hno:coordV s.data.toList u I D t=none:=coordV_no (fun h=>h2 (by have:=h.2.2.1;rw [hls] at this;omega))
      have HNO:=Lib.hid hno
      clear hno hl hl' hls hlen
      generalize (strip s.data.toList).1=b
      go_wp2_with fail
      go_ret2
      rw [HNO.out]
      exact ⟨rfl,HBL.out⟩
    ·have hno:coordV s.data.toList u I D t=none:=coordV_no (fun h=>h1 (by have:=h.2.1;rw [hls] at this;omega))
     have HNO:=Lib.hid hno
     clear hno hl hl' hls hlen
     generalize (strip s.data.toList).1=b
     go_wp2_with fail
     go_ret2
     rw [HNO.out]
     exact ⟨rfl,HBL.out⟩
theorem coord_at (s:ByteArray) (l:List UInt8) (hl:Hid (s.data.toList=l)) (u i d:Int) (t:Bool) (v:Int) (b:Bool) (hv:Hid ((coordV l u i d t).getD 0=v∧(coordV l u i d t).isSome=b)) (hs:s.size≤9223372036854775807) (w:World):
  Calls Tryz.prog 146 #[.string s,fmtVal u i d t] w fun e w'=>e= .returned (.tuple #[.int .i64 v, .bool b])∧Below w.heap.size w w':=by
 have h1:=hl.out
 obtain ⟨h2,h3⟩:=hv.out
 subst h1;subst h2;subst h3
 exact coord_any s u i d t hs w
end Go.Proofs.YtfldplmgkeiimaaGreatDoor.UnitW
