/-
  Several texts of this proof in one: Qq, Zt.
-/
import Derived.Test.YtfldplmgkeiimaaGreatDoorQ35
import Derived.Lib.MinMax
import Derived.Test.YtfldplmgkeiimaaGreatDoorQ40
set_option linter.unusedVariables false
set_option linter.unusedSimpArgs false
namespace Go.Proofs.YtfldplmgkeiimaaGreatDoor.VW
open Go.RowKit Go.Proofs.YtfldplmgkeiimaaGreatDoor.Vp
def lst (n:Nat→Int):Nat→Int
 | 0=>0
 | 1=>n 0
 | k+2=>min (lst n (k+1)) (n (k+1))
def mst (n:Nat→Int):Nat→Int
 | 0=>0
 | 1=>n 0
 | k+2=>max (mst n (k+1)) (n (k+1))
theorem idx_cov (a b:Int) (j:Nat) (hj:j < 2) (w:World):(Instr.index 171 (.agg #[.int .i64 a, .int .i64 b]) (.int .i64 j)).run Tryz.prog w= .ok (.int .i64 (if j=0 then a else b)) w:=by
 rcases (show j=0∨j=1 by omega) with rfl | rfl <;> simp [Instr.index,run_underlying Tryz.underlying171,asIntOf,go_sem,part]
theorem idx_tone (a b:Int) (j:Nat) (hj:j < 2) (w:World):(Instr.index 172 (.agg #[.int .i64 a, .int .i64 b]) (.int .i64 j)).run Tryz.prog w= .ok (.int .i64 (if j=0 then a else b)) w:=by
 rcases (show j=0∨j=1 by omega) with rfl | rfl <;> simp [Instr.index,run_underlying Tryz.underlying172,asIntOf,go_sem,part]
theorem lay_fit {t c al k cells:Int} (ht:0≤t∧t≤16711680) (hc:0≤c∧c≤255) (ha:0≤al∧al≤255) (hk:0≤k∧k≤cells) (hn:1≤cells∧cells≤4096):
  (0≤al *k∧al *k≤255 *cells)∧(0≤t *(255 *cells - al *k)∧t *(255 *cells - al *k)≤17455015526400)∧(0≤65536 *c *(al *k)∧65536 *c *(al *k)≤17455015526400):=by
 have h1:0≤al *k:=Int.mul_nonneg ha.1 hk.1
 have h2:0≤(255 - al) *k:=Int.mul_nonneg (by omega) hk.1
 have h3:(255 - al) *k=255 *k - al *k:=by grind
 have h4:al *k≤255 *cells:=by omega
 have h5:0≤t *(255 *cells - al *k):=Int.mul_nonneg ht.1 (by omega)
 have h6:0≤(16711680 - t) *(255 *cells - al *k):=Int.mul_nonneg (by omega) (by omega)
 have h7:(16711680 - t) *(255 *cells - al *k)=16711680 *(255 *cells - al *k) - t *(255 *cells - al *k):=by grind
 have h8:0≤c *(al *k):=Int.mul_nonneg hc.1 h1
 have h9:0≤(255 - c) *(al *k):=Int.mul_nonneg (by omega) h1
 have h10:(255 - c) *(al *k)=255 *(al *k) - c *(al *k):=by grind
 have h11:65536 *c *(al *k)=65536 *(c *(al *k)):=by grind
 refine ⟨⟨h1,h4⟩,⟨h5,by omega⟩,⟨by omega,by omega⟩⟩
set_option maxRecDepth 100000 in
set_option maxHeartbeats 25600000 in
theorem over_c (t:Int × Int) (c al:Int) (v:Cv) (cells:Int) (hc:0≤c∧c≤255) (ha:0≤al∧al≤255) (hv:okCov v cells=true) (ht:okTone t=true) (w:World):
  Calls Tryz.prog 43 #[toV t, .int .i64 c, .int .i64 al,toV v, .int .i64 cells] w fun e w'=>e= .returned (.tuple #[toV (leastV t c al v cells /(255 *cells),(mostV t c al v cells+255 *cells - 1)/(255 *cells)), .bool true])∧Below w.heap.size w w':=by
 have HV:=Lib.hid hv
 have HT:=Lib.hid ht
 obtain ⟨b0,b1⟩:=t
 obtain ⟨a0,a1⟩:=v
 have hv2:=hv
 have ht2:=ht
 simp only [okCov,Bool.and_eq_true,decide_eq_true_eq] at hv2
 simp only [okTone,Bool.and_eq_true,decide_eq_true_eq] at ht2
 obtain ⟨hn1,hn2,hv0,hv1,hv3⟩:=hv2
 obtain ⟨ht0,ht1,ht3⟩:=ht2
 obtain ⟨n,hn⟩:∃n:Nat→Int,(fun q=>layV (if q % 2=0 then b0 else b1) c al (if q / 2=0 then a0 else a1) cells)=n:=⟨_,rfl⟩
 have HN:=Lib.hid hn
 have hF:∀(b a:Int),0≤b∧b≤16711680→0≤a∧a≤cells→(IntKind.i64.wrap (al *a)=al *a∧IntKind.i64.wrap (255 *cells - al *a)=255 *cells - al *a∧IntKind.i64.wrap (b *(255 *cells - al *a))=b *(255 *cells - al *a)∧IntKind.i64.wrap (65536 *c *(al *a))=65536 *c *(al *a)∧IntKind.i64.wrap (b *(255 *cells - al *a)+65536 *c *(al *a))=b *(255 *cells - al *a)+65536 *c *(al *a)):=by
  intro b a hb h
  obtain ⟨⟨f1,f2⟩,⟨f3,f4⟩,⟨f5,f6⟩⟩:=lay_fit hb hc ha h ⟨hn1,hn2⟩
  exact ⟨IntWalk.i64_in _ (by omega),IntWalk.i64_in _ (by omega),IntWalk.i64_in _ (by omega),IntWalk.i64_in _ (by omega),IntWalk.i64_in _ (by omega)⟩
 have hNN:∀q,0≤n q∧n q≤34910031052800:=by
  intro q
  rw [←hn]
  simp only [layV]
  obtain ⟨⟨f1,f2⟩,⟨f3,f4⟩,⟨f5,f6⟩⟩:=lay_fit (t:=if q % 2=0 then b0 else b1) (k:=if q / 2=0 then a0 else a1) (by split <;> omega) hc ha (by split <;> omega) ⟨hn1,hn2⟩
  omega
 have HF:=Lib.hid hF
 have HNN:=Lib.hid hNN
 have hcw:IntKind.i64.wrap (65536 *c)=65536 *c:=IntWalk.i64_in _ (by omega)
 have hdw:IntKind.i64.wrap (255 *cells)=255 *cells:=IntWalk.i64_in _ (by omega)
 have nc0:¬c < 0:=by omega
 have nc1:¬c > 255:=by omega
 have na0:¬al < 0:=by omega
 have na1:¬al > 255:=by omega
 have HB0:Hid (0≤b0∧b0≤b1∧b1≤16711680∧0≤a0∧a0≤a1∧a1≤cells∧1≤cells∧cells≤4096):=Lib.hid (And.intro ht0 (And.intro ht1 (And.intro ht3 (And.intro hv0 (And.intro hv1 (And.intro hv3 (And.intro hn1 hn2)))))))
 clear hv ht hn hF hNN ht0 ht1 ht3 hv0 hv1 hv3
 go_enter Tryz.func43,Tryz.ntmps43
 go_upto_region 1 with fail
 obtain ⟨W,hW⟩:∃W,((w.alloc (toO (b0,b1))).alloc (.cells #[.int .i64 a0, .int .i64 a1] 43)).alloc (toO (0,0))=W:=⟨_,rfl⟩
 obtain ⟨h1,h2,h3,h4,_⟩:=three_at hW
 have H1:=Lib.hid h1
 have H2:=Lib.hid h2
 have H3:=Lib.hid h3
 have H4:=Lib.hid h4
 change Code.wp _ _ _ _ (((w.alloc (toO (b0,b1))).alloc (.cells #[.int .i64 a0, .int .i64 a1] 43)).alloc (toO (0,0)))
 rw [hW]
 clear hW h1 h2 h3 h4
 obtain ⟨p0,p1⟩:=to_at H1.out
 obtain ⟨q0,q1⟩:=to_at H2.out
 go_wp2_with fail
 with_reducible refine (okCov_c (a0,a1) cells true HV _).mono ?_
 rintro e W1 ⟨rfl,hb⟩
 have K1:=Lib.hid (one_below H1.out hb)
 have K2:=Lib.hid (one_below H2.out hb)
 have K3:=Lib.hid (one_below H3.out hb)
 have K4:Hid (Below w.heap.size w W1):=H4.out.trans (hb.mono H4.out.size)
 clear p0 p1 q0 q1 hb H1 H2 H3 H4
 obtain ⟨p0,p1⟩:=to_at K1.out
 obtain ⟨q0,q1⟩:=to_at K2.out
 go_wp2_with fail
 with_reducible refine (okTone_c (b0,b1) true HT _).mono ?_
 rintro e W2 ⟨rfl,hb⟩
 have L1:=Lib.hid (one_below K1.out hb)
 have L2:=Lib.hid (one_below K2.out hb)
 have L3:=Lib.hid (one_below K3.out hb)
 have L4:Hid (Below w.heap.size w W2):=K4.out.trans (hb.mono K4.out.size)
 clear p0 p1 q0 q1 hb K1 K2 K3 K4
 obtain ⟨p0,p1⟩:=to_at L1.out
 obtain ⟨q0,q1⟩:=to_at L2.out
 go_wp2_with fail
 go_loopw [13,14,15,55] (fun l m f i wr=>∃(j:Nat) (wy:World),wy=wr∧Hid (wy=W2)∧j≤2∧l= .int .i64 (lst n (2 *j))∧m= .int .i64 (mst n (2 *j))∧f= .bool (decide (j=0))∧i= .int .i64 j) (fun _ _ _ i _=>2 -(intOf i).toNat)
 case atStart=>exact ⟨0,_,rfl,rfl,by decide,rfl,rfl,rfl,rfl⟩
 case round=>
 obtain ⟨j,wy,rfl,hW,hj,rfl,rfl,rfl,rfl⟩:=hrel
 have hW2:=hW.out
 subst hW2
 obtain ⟨ji,hji⟩:∃ji:Int,(j:Int)=ji:=⟨_,rfl⟩
 rw [hji]
 rcases (show j=0∨j=1∨j=2 by omega) with rfl | rfl | rfl
 ·
  obtain rfl:ji=0:=by omega
  have hix:∀w,(Instr.index 171 (.agg #[.int .i64 a0, .int .i64 a1]) (.int .i64 0)).run Tryz.prog w= .ok (.int .i64 a0) w:=fun w=>idx_cov a0 a1 0 (by decide) w
  have hwa:IntKind.i64.wrap (al *a0)=al *a0:=(HF.out b0 a0 (by have:=HB0.out;omega) (by have:=HB0.out;omega)).1
  go_wp2_with fail
  go_loopw [13,14,15,66] (fun l m f i wr=>∃(k:Nat) (wz:World),wz=wr∧Hid (wz=wy)∧k≤2∧l= .int .i64 (lst n (2 *0+k))∧m= .int .i64 (mst n (2 *0+k))∧f= .bool (decide (2 *0+k=0))∧i= .int .i64 k) (fun _ _ _ i _=>2 -(intOf i).toNat)
  case atStart=>exact ⟨0,_,rfl,rfl,by decide,rfl,rfl,rfl,rfl⟩
  case round=>
  obtain ⟨k,wz,rfl,hW3,hk,rfl,rfl,rfl,rfl⟩:=hrel
  have hW4:=hW3.out
  subst hW4
  obtain ⟨ki,hki⟩:∃ki:Int,(k:Int)=ki:=⟨_,rfl⟩
  rw [hki]
  rcases (show k=0∨k=1∨k=2 by omega) with rfl | rfl | rfl
  ·
   obtain rfl:ki=0:=by omega
   have hix:∀w,(Instr.index 172 (.agg #[.int .i64 b0, .int .i64 b1]) (.int .i64 0)).run Tryz.prog w= .ok (.int .i64 b0) w:=fun w=>idx_tone b0 b1 0 (by decide) w
   obtain ⟨f1,f2,f3,f4,f5⟩:=HF.out b0 a0 (by have:=HB0.out;omega) (by have:=HB0.out;omega)
   have hnq:b0 *(255 *cells - al *a0)+65536 *c *(al *a0)=n 0:=by rw [←HN.out];rfl
   rw [hnq] at f5
   go_wp2_with fail
   go_round <;> first | exact ⟨1,_,rfl,rfl,by omega,rfl,rfl,rfl,by go_num⟩|(simp [intOf] <;> omega)
  ·
   obtain rfl:ki=1:=by omega
   have hix:∀w,(Instr.index 172 (.agg #[.int .i64 b0, .int .i64 b1]) (.int .i64 1)).run Tryz.prog w= .ok (.int .i64 b1) w:=fun w=>idx_tone b0 b1 1 (by decide) w
   obtain ⟨f1,f2,f3,f4,f5⟩:=HF.out b1 a0 (by have:=HB0.out;omega) (by have:=HB0.out;omega)
   have hnq:b1 *(255 *cells - al *a0)+65536 *c *(al *a0)=n 1:=by rw [←HN.out];rfl
   rw [hnq] at f5
   obtain ⟨l,hl⟩:∃l,lst n 1=l:=⟨_,rfl⟩
   obtain ⟨m,hm⟩:∃m,mst n 1=m:=⟨_,rfl⟩
   have HL2:Hid (lst n (1+1)=min l (n 1)):=by show _=_;rw [←hl];rfl
   have HM2:Hid (mst n (1+1)=max m (n 1)):=by show _=_;rw [←hm];rfl
   obtain ⟨u,hu⟩:∃u,n 1=u:=⟨_,rfl⟩
   rw [hu] at f5 hnq HL2 HM2
   have e1:lst n (2 *0+1)=l:=hl
   have e2:mst n (2 *0+1)=m:=hm
   rw [e1,e2]
   clear hl hm hu e1 e2
   by_cases c1:u < l <;> by_cases c2:u > m
   ·have HL3:Hid (lst n (1+1)=u):=by show _=_;rw [HL2.out];omega
    have HM3:Hid (mst n (1+1)=u):=by show _=_;rw [HM2.out];omega
    go_wp2_with fail
    go_round <;> first | exact ⟨1+1,_,rfl,rfl,by omega,by rw [←HL3.out],by rw [←HM3.out],rfl,by go_num⟩|(simp [intOf] <;> omega)
   ·have HL3:Hid (lst n (1+1)=u):=by show _=_;rw [HL2.out];omega
    have HM3:Hid (mst n (1+1)=m):=by show _=_;rw [HM2.out];omega
    go_wp2_with fail
    go_round <;> first | exact ⟨1+1,_,rfl,rfl,by omega,by rw [←HL3.out],by rw [←HM3.out],rfl,by go_num⟩|(simp [intOf] <;> omega)
   ·have HL3:Hid (lst n (1+1)=l):=by show _=_;rw [HL2.out];omega
    have HM3:Hid (mst n (1+1)=u):=by show _=_;rw [HM2.out];omega
    go_wp2_with fail
    go_round <;> first | exact ⟨1+1,_,rfl,rfl,by omega,by rw [←HL3.out],by rw [←HM3.out],rfl,by go_num⟩|(simp [intOf] <;> omega)
   ·have HL3:Hid (lst n (1+1)=l):=by show _=_;rw [HL2.out];omega
    have HM3:Hid (mst n (1+1)=m):=by show _=_;rw [HM2.out];omega
    go_wp2_with fail
    go_round <;> first | exact ⟨1+1,_,rfl,rfl,by omega,by rw [←HL3.out],by rw [←HM3.out],rfl,by go_num⟩|(simp [intOf] <;> omega)
  ·
   obtain rfl:ki=2:=by omega
   go_wp2_with fail
   go_round <;> first | exact ⟨0+1,_,rfl,rfl,by omega,rfl,rfl,rfl,by go_num⟩|(simp [intOf] <;> omega)
 ·
  obtain rfl:ji=1:=by omega
  have hix:∀w,(Instr.index 171 (.agg #[.int .i64 a0, .int .i64 a1]) (.int .i64 1)).run Tryz.prog w= .ok (.int .i64 a1) w:=fun w=>idx_cov a0 a1 1 (by decide) w
  have hwa:IntKind.i64.wrap (al *a1)=al *a1:=(HF.out b0 a1 (by have:=HB0.out;omega) (by have:=HB0.out;omega)).1
  go_wp2_with fail
  go_loopw [13,14,15,66] (fun l m f i wr=>∃(k:Nat) (wz:World),wz=wr∧Hid (wz=wy)∧k≤2∧l= .int .i64 (lst n (2 *1+k))∧m= .int .i64 (mst n (2 *1+k))∧f= .bool (decide (2 *1+k=0))∧i= .int .i64 k) (fun _ _ _ i _=>2 -(intOf i).toNat)
  case atStart=>exact ⟨0,_,rfl,rfl,by decide,rfl,rfl,rfl,rfl⟩
  case round=>
  obtain ⟨k,wz,rfl,hW3,hk,rfl,rfl,rfl,rfl⟩:=hrel
  have hW4:=hW3.out
  subst hW4
  obtain ⟨ki,hki⟩:∃ki:Int,(k:Int)=ki:=⟨_,rfl⟩
  rw [hki]
  rcases (show k=0∨k=1∨k=2 by omega) with rfl | rfl | rfl
  ·
   obtain rfl:ki=0:=by omega
   have hix:∀w,(Instr.index 172 (.agg #[.int .i64 b0, .int .i64 b1]) (.int .i64 0)).run Tryz.prog w= .ok (.int .i64 b0) w:=fun w=>idx_tone b0 b1 0 (by decide) w
   obtain ⟨f1,f2,f3,f4,f5⟩:=HF.out b0 a1 (by have:=HB0.out;omega) (by have:=HB0.out;omega)
   have hnq:b0 *(255 *cells - al *a1)+65536 *c *(al *a1)=n 2:=by rw [←HN.out];rfl
   rw [hnq] at f5
   obtain ⟨l,hl⟩:∃l,lst n 2=l:=⟨_,rfl⟩
   obtain ⟨m,hm⟩:∃m,mst n 2=m:=⟨_,rfl⟩
   have HL2:Hid (lst n (2+1)=min l (n 2)):=by show _=_;rw [←hl];rfl
   have HM2:Hid (mst n (2+1)=max m (n 2)):=by show _=_;rw [←hm];rfl
   obtain ⟨u,hu⟩:∃u,n 2=u:=⟨_,rfl⟩
   rw [hu] at f5 hnq HL2 HM2
   have e1:lst n (2 *1+0)=l:=hl
   have e2:mst n (2 *1+0)=m:=hm
   rw [e1,e2]
   clear hl hm hu e1 e2
   by_cases c1:u < l <;> by_cases c2:u > m
   ·have HL3:Hid (lst n (2+1)=u):=by show _=_;rw [HL2.out];omega
    have HM3:Hid (mst n (2+1)=u):=by show _=_;rw [HM2.out];omega
    go_wp2_with fail
    go_round <;> first | exact ⟨0+1,_,rfl,rfl,by omega,by rw [←HL3.out],by rw [←HM3.out],rfl,by go_num⟩|(simp [intOf] <;> omega)
   ·have HL3:Hid (lst n (2+1)=u):=by show _=_;rw [HL2.out];omega
    have HM3:Hid (mst n (2+1)=m):=by show _=_;rw [HM2.out];omega
    go_wp2_with fail
    go_round <;> first | exact ⟨0+1,_,rfl,rfl,by omega,by rw [←HL3.out],by rw [←HM3.out],rfl,by go_num⟩|(simp [intOf] <;> omega)
   ·have HL3:Hid (lst n (2+1)=l):=by show _=_;rw [HL2.out];omega
    have HM3:Hid (mst n (2+1)=u):=by show _=_;rw [HM2.out];omega
    go_wp2_with fail
    go_round <;> first | exact ⟨0+1,_,rfl,rfl,by omega,by rw [←HL3.out],by rw [←HM3.out],rfl,by go_num⟩|(simp [intOf] <;> omega)
   ·have HL3:Hid (lst n (2+1)=l):=by show _=_;rw [HL2.out];omega
    have HM3:Hid (mst n (2+1)=m):=by show _=_;rw [HM2.out];omega
    go_wp2_with fail
    go_round <;> first | exact ⟨0+1,_,rfl,rfl,by omega,by rw [←HL3.out],by rw [←HM3.out],rfl,by go_num⟩|(simp [intOf] <;> omega)
  ·
   obtain rfl:ki=1:=by omega
   have hix:∀w,(Instr.index 172 (.agg #[.int .i64 b0, .int .i64 b1]) (.int .i64 1)).run Tryz.prog w= .ok (.int .i64 b1) w:=fun w=>idx_tone b0 b1 1 (by decide) w
   obtain ⟨f1,f2,f3,f4,f5⟩:=HF.out b1 a1 (by have:=HB0.out;omega) (by have:=HB0.out;omega)
   have hnq:b1 *(255 *cells - al *a1)+65536 *c *(al *a1)=n 3:=by rw [←HN.out];rfl
   rw [hnq] at f5
   obtain ⟨l,hl⟩:∃l,lst n 3=l:=⟨_,rfl⟩
   obtain ⟨m,hm⟩:∃m,mst n 3=m:=⟨_,rfl⟩
   have HL2:Hid (lst n (3+1)=min l (n 3)):=by show _=_;rw [←hl];rfl
   have HM2:Hid (mst n (3+1)=max m (n 3)):=by show _=_;rw [←hm];rfl
   obtain ⟨u,hu⟩:∃u,n 3=u:=⟨_,rfl⟩
   rw [hu] at f5 hnq HL2 HM2
   have e1:lst n (2 *1+1)=l:=hl
   have e2:mst n (2 *1+1)=m:=hm
   rw [e1,e2]
   clear hl hm hu e1 e2
   by_cases c1:u < l <;> by_cases c2:u > m
   ·have HL3:Hid (lst n (3+1)=u):=by show _=_;rw [HL2.out];omega
    have HM3:Hid (mst n (3+1)=u):=by show _=_;rw [HM2.out];omega
    go_wp2_with fail
    go_round <;> first | exact ⟨1+1,_,rfl,rfl,by omega,by rw [←HL3.out],by rw [←HM3.out],rfl,by go_num⟩|(simp [intOf] <;> omega)
   ·have HL3:Hid (lst n (3+1)=u):=by show _=_;rw [HL2.out];omega
    have HM3:Hid (mst n (3+1)=m):=by show _=_;rw [HM2.out];omega
    go_wp2_with fail
    go_round <;> first | exact ⟨1+1,_,rfl,rfl,by omega,by rw [←HL3.out],by rw [←HM3.out],rfl,by go_num⟩|(simp [intOf] <;> omega)
   ·have HL3:Hid (lst n (3+1)=l):=by show _=_;rw [HL2.out];omega
    have HM3:Hid (mst n (3+1)=u):=by show _=_;rw [HM2.out];omega
    go_wp2_with fail
    go_round <;> first | exact ⟨1+1,_,rfl,rfl,by omega,by rw [←HL3.out],by rw [←HM3.out],rfl,by go_num⟩|(simp [intOf] <;> omega)
   ·have HL3:Hid (lst n (3+1)=l):=by show _=_;rw [HL2.out];omega
    have HM3:Hid (mst n (3+1)=m):=by show _=_;rw [HM2.out];omega
    go_wp2_with fail
    go_round <;> first | exact ⟨1+1,_,rfl,rfl,by omega,by rw [←HL3.out],by rw [←HM3.out],rfl,by go_num⟩|(simp [intOf] <;> omega)
  ·
   obtain rfl:ki=2:=by omega
   go_wp2_with fail
   go_round <;> first | exact ⟨1+1,_,rfl,rfl,by omega,rfl,rfl,rfl,by go_num⟩|(simp [intOf] <;> omega)
 ·
  obtain rfl:ji=2:=by omega
  obtain ⟨L,hL⟩:∃L,lst n (2 *2)=L:=⟨_,rfl⟩
  obtain ⟨M,hM⟩:∃M,mst n (2 *2)=M:=⟨_,rfl⟩
  obtain ⟨D,hD⟩:∃D,255 *cells=D:=⟨_,rfl⟩
  have hLV:leastV (b0,b1) c al (a0,a1) cells=L:=by rw [←hL,←HN.out];rfl
  have hMV:mostV (b0,b1) c al (a0,a1) cells=M:=by rw [←hM,←HN.out];rfl
  have hLb:0≤L∧L≤34910031052800:=by
   have h0:=HNN.out 0
   have h1:=HNN.out 1
   have h2:=HNN.out 2
   have h3:=HNN.out 3
   rw [←hL]
   show 0≤min (min (min (n 0) (n 1)) (n 2)) (n 3)∧min (min (min (n 0) (n 1)) (n 2)) (n 3)≤_
   omega
  have hMb:0≤M∧M≤34910031052800:=by
   have h0:=HNN.out 0
   have h1:=HNN.out 1
   have h2:=HNN.out 2
   have h3:=HNN.out 3
   rw [←hM]
   show 0≤max (max (max (n 0) (n 1)) (n 2)) (n 3)∧max (max (max (n 0) (n 1)) (n 2)) (n 3)≤_
   omega
  have hDb:255≤D∧D≤1044480:=by omega
  have w1:IntKind.i64.wrap (M+D)=M+D:=IntWalk.i64_in _ (by omega)
  have w2:IntKind.i64.wrap (M+D - 1)=M+D - 1:=IntWalk.i64_in _ (by omega)
  have t1:L.tdiv D=L / D:=Int.tdiv_eq_ediv_of_nonneg (by omega)
  have t2:(M+D - 1).tdiv D=(M+D - 1)/ D:=Int.tdiv_eq_ediv_of_nonneg (by omega)
  have x1:0≤L / D∧L / D≤L:=⟨Int.ediv_nonneg (by omega) (by omega),Int.ediv_le_self _ (by omega)⟩
  have x2:0≤(M+D - 1)/ D∧(M+D - 1)/ D≤M+D - 1:=⟨Int.ediv_nonneg (by omega) (by omega),Int.ediv_le_self _ (by omega)⟩
  have w3:IntKind.i64.wrap (L / D)=L / D:=IntWalk.i64_in _ (by omega)
  have w4:IntKind.i64.wrap ((M+D - 1)/ D)=(M+D - 1)/ D:=IntWalk.i64_in _ (by omega)
  have hDn:¬D=0:=by omega
  have HLV:=Lib.hid hLV
  have HMV:=Lib.hid hMV
  have HDV:=Lib.hid hD
  rw [hL,hM,hD]
  clear hD hL hM hLV hMV hLb hMb hDb x1 x2 hdw hcw
  obtain ⟨u0,u1⟩:=to_at L3.out
  have fu:=cells_f0 L3.out
  go_upto_region 21 with fail
  go_region
  all_goals
   go_wp2_with fail
   have hrr:=putW_all [.int .i64 (L / D), .int .i64 ((M+D - 1)/ D)] L3.out rfl
   have hbb:=putW_below (m:=0) (b:=w.heap.size+1+1) (show w.heap.size≤w.heap.size+1+1 by omega) [.int .i64 (L / D), .int .i64 ((M+D - 1)/ D)] L4.out
   exact bodyPost_ret (results_cell_tmp_row rfl _ _ (w.heap.size+1+1) _ _ _ _ rfl hrr Tryz.underlying107 rfl (by kernel_rfl)) rfl ⟨by rw [HLV.out,HMV.out,HDV.out];rfl,hbb.drew⟩
end Go.Proofs.YtfldplmgkeiimaaGreatDoor.VW
namespace Go.Proofs.YtfldplmgkeiimaaGreatDoor.VW
open Go.RowKit Go.Proofs.YtfldplmgkeiimaaGreatDoor.Vp
abbrev tTone:TypeId:=107
abbrev tIm:TypeId:=54
abbrev zTn:Value:= .agg #[.int .i64 0, .int .i64 0]
theorem info_tn:(Tryz.prog.info? tTone).map (fun i=>(i.zero,i.size,i.bytes))=some (some zTn,2,16):=by kernel_rfl
theorem info_u8:(Tryz.prog.info? 5).map (fun i=>(i.zero,i.size,i.bytes))=some (some (.int .u8 0),1,1):=by kernel_rfl
theorem cvs_at {l:List Tone} {i:Nat} (hi:i < l.length):(cvsV l)[i *2]?=some (.int .i64 l[i].1)∧(cvsV l)[i *2+1]?=some (.int .i64 l[i].2):=ptsL_at hi
theorem cvs_set:∀(l:List Tone) (j:Nat) (t:Tone),cvsV (l.set j t)=((cvsV l).set (j *2) (.int .i64 t.1)).set (j *2+1) (.int .i64 t.2)
 | [],_,_=>rfl
 | a :: l,0,t=>rfl
 | a :: l,j+1,t=>by
  have e:cvsV (a :: l)= .int .i64 a.1 :: .int .i64 a.2 :: cvsV l:=rfl
  have e2:cvsV ((a :: l).set (j+1) t)= .int .i64 a.1 :: .int .i64 a.2 :: cvsV (l.set j t):=rfl
  rw [e2,e,cvs_set l j t,show (j+1) *2=j *2+1+1 by omega]
  rfl
theorem own_setc {w:World} {B K n c i sz:Nat} {e:TypeId} {xs:List Value} {u:Value} (h:w.ownsRow B e sz (.slice (some ⟨K,0,none⟩) n c) n xs) (hi:i < n *sz):(w.setCell ⟨K,i,none⟩ u).ownsRow B e sz (.slice (some ⟨K,0,none⟩) n c) n (xs.set i u):=by
 refine ⟨by rw [List.length_set];exact h.1,?_⟩
 rcases h.2 with ⟨hv,_⟩|⟨k,cap,cur,hk,hB,hh,h1,h2,h3,h4⟩
 ·cases hv
 ·injection hk with hk1 _ hk2
  injection hk1 with hk1
  injection hk1 with hk1
  subst hk1 hk2
  refine .inr ⟨K,c,cur.setIfInBounds i u,rfl,hB,set_at u hh,h1,h2,by rw [Array.size_setIfInBounds];exact h3,?_⟩
  rw [Array.toList_setIfInBounds,List.take_set,h4]
theorem own_tone {w:World} {B g n c:Nat} {ts:List Tone} (h:w.ownsRow B tTone 2 (.slice (some ⟨g,0,none⟩) n c) n (cvsV ts)) {j:Nat} (hj:j < n) (t:Tone):((w.setCell ⟨g,j *2,none⟩ (.int .i64 t.1)).setCell ⟨g,j *2+1,none⟩ (.int .i64 t.2)).ownsRow B tTone 2 (.slice (some ⟨g,0,none⟩) n c) n (cvsV (ts.set j t)):=by
 rw [cvs_set]
 exact own_setc (own_setc h (by omega)) (by omega)
structure ReM (w:World) (D:Nat) (jb:Array Value) (x:World):Prop where
 bel:Below w.heap.size w x
 j:x.heap[D]?=some (.cells jb tJb)
 im:x.heap[D+1]?=some (.cells #[.int .i64 0, .int .i64 0, .bool false, .slice none 0 0] tIm)
 ft:x.heap[D+1+1]?=some (.cells #[.int .i64 0, .int .i64 0, .int .i64 0, .int .i64 0] tFt)
theorem ReM.below {w:World} {D:Nat} {jb:Array Value} {x y:World} (h:ReM w D jb x) (hb:Below x.heap.size x y):ReM w D jb y:=⟨h.bel.trans (hb.mono h.bel.size),one_below h.j hb,one_below h.im hb,one_below h.ft hb⟩
theorem ReM.keep {w:World} {D B:Nat} {jb:Array Value} {x y:World} (h:ReM w D jb x) (hD:w.heap.size≤D) (hB:D+1+1 < B) (hk:Keep (fun k=>k < B) x y):ReM w D jb y:=⟨h.bel.trans (hk.below _ h.bel.size fun k hk=>by omega),hk.get (show D < B by omega) h.j,hk.get (show D+1 < B by omega) h.im,hk.get (show D+1+1 < B by omega) h.ft⟩
theorem ReM.keepG {w:World} {D G:Nat} {jb:Array Value} {x y:World} (h:ReM w D jb x) (hD:w.heap.size≤D) (hG:D+1+1 < G) (hk:Keep (fun k=>k≠G) x y):ReM w D jb y:=⟨h.bel.trans (hk.below _ h.bel.size fun k hk=>by omega),hk.get (show D≠G by omega) h.j,hk.get (show D+1≠G by omega) h.im,hk.get (show D+1+1≠G by omega) h.ft⟩
theorem fin8 {w W:World} {D:Nat} {jb:Array Value} (h:ReM w D jb W) (hD:w.heap.size≤D) (a0 a1 a2 a3 b0 b1 b2 b3:Value):
  ((((((((W.setCell ⟨D+1,0,none⟩ a0).setCell ⟨D+1,1,none⟩ a1).setCell ⟨D+1,2,none⟩ a2).setCell ⟨D+1,3,none⟩ a3).setCell ⟨D+1+1,0,none⟩ b0).setCell ⟨D+1+1,1,none⟩ b1).setCell ⟨D+1+1,2,none⟩ b2).setCell ⟨D+1+1,3,none⟩ b3).heap[D+1]?=some (.cells #[a0,a1,a2,a3] tIm)∧((((((((W.setCell ⟨D+1,0,none⟩ a0).setCell ⟨D+1,1,none⟩ a1).setCell ⟨D+1,2,none⟩ a2).setCell ⟨D+1,3,none⟩ a3).setCell ⟨D+1+1,0,none⟩ b0).setCell ⟨D+1+1,1,none⟩ b1).setCell ⟨D+1+1,2,none⟩ b2).setCell ⟨D+1+1,3,none⟩ b3).heap[D+1+1]?=some (.cells #[b0,b1,b2,b3] tFt)∧Below w.heap.size w ((((((((W.setCell ⟨D+1,0,none⟩ a0).setCell ⟨D+1,1,none⟩ a1).setCell ⟨D+1,2,none⟩ a2).setCell ⟨D+1,3,none⟩ a3).setCell ⟨D+1+1,0,none⟩ b0).setCell ⟨D+1+1,1,none⟩ b1).setCell ⟨D+1+1,2,none⟩ b2).setCell ⟨D+1+1,3,none⟩ b3)∧Keep (fun k=>k≠D+1∧k≠D+1+1) W ((((((((W.setCell ⟨D+1,0,none⟩ a0).setCell ⟨D+1,1,none⟩ a1).setCell ⟨D+1,2,none⟩ a2).setCell ⟨D+1,3,none⟩ a3).setCell ⟨D+1+1,0,none⟩ b0).setCell ⟨D+1+1,1,none⟩ b1).setCell ⟨D+1+1,2,none⟩ b2).setCell ⟨D+1+1,3,none⟩ b3):=by
 have h1:=set4 h.im a0 a1 a2 a3
 have k1:Keep (fun k=>k≠D+1∧k≠D+1+1) W ((((W.setCell ⟨D+1,0,none⟩ a0).setCell ⟨D+1,1,none⟩ a1).setCell ⟨D+1,2,none⟩ a2).setCell ⟨D+1,3,none⟩ a3):=keep4 (fun hk=>hk.1 rfl) a0 a1 a2 a3
 have k1':Keep (fun k=>k≠D+1) W ((((W.setCell ⟨D+1,0,none⟩ a0).setCell ⟨D+1,1,none⟩ a1).setCell ⟨D+1,2,none⟩ a2).setCell ⟨D+1,3,none⟩ a3):=keep4 (fun hk=>hk rfl) a0 a1 a2 a3
 have h2:=k1'.get (show D+1+1≠D+1 by omega) h.ft
 have k2:Keep (fun k=>k≠D+1∧k≠D+1+1) ((((W.setCell ⟨D+1,0,none⟩ a0).setCell ⟨D+1,1,none⟩ a1).setCell ⟨D+1,2,none⟩ a2).setCell ⟨D+1,3,none⟩ a3) ((((((((W.setCell ⟨D+1,0,none⟩ a0).setCell ⟨D+1,1,none⟩ a1).setCell ⟨D+1,2,none⟩ a2).setCell ⟨D+1,3,none⟩ a3).setCell ⟨D+1+1,0,none⟩ b0).setCell ⟨D+1+1,1,none⟩ b1).setCell ⟨D+1+1,2,none⟩ b2).setCell ⟨D+1+1,3,none⟩ b3):=keep4 (fun hk=>hk.2 rfl) b0 b1 b2 b3
 have k2':Keep (fun k=>k≠D+1+1) ((((W.setCell ⟨D+1,0,none⟩ a0).setCell ⟨D+1,1,none⟩ a1).setCell ⟨D+1,2,none⟩ a2).setCell ⟨D+1,3,none⟩ a3) ((((((((W.setCell ⟨D+1,0,none⟩ a0).setCell ⟨D+1,1,none⟩ a1).setCell ⟨D+1,2,none⟩ a2).setCell ⟨D+1,3,none⟩ a3).setCell ⟨D+1+1,0,none⟩ b0).setCell ⟨D+1+1,1,none⟩ b1).setCell ⟨D+1+1,2,none⟩ b2).setCell ⟨D+1+1,3,none⟩ b3):=keep4 (fun hk=>hk rfl) b0 b1 b2 b3
 exact ⟨k2'.get (show D+1≠D+1+1 by omega) h1,set4 h2 b0 b1 b2 b3,h.bel.trans ((k1.trans k2).below _ h.bel.size fun k hk=>by omega),k1.trans k2⟩
theorem cells_le {v:Vw} (h:viewOk v=true):cellsV v≤4096:=by
 obtain ⟨⟨h0,h6⟩,_⟩:=viewOk_props h
 unfold cellsV
 have h7:v.depth.toNat≤6:=by omega
 have h8:(4:Nat)^ v.depth.toNat≤4 ^ 6:=Nat.pow_le_pow_right (by decide) h7
 have e:((4 ^ v.depth.toNat:Nat):Int)=4 ^ v.depth.toNat:=by push_cast;rfl
 rw [←e]
 have h9:(4:Nat)^ 6=4096:=by decide
 rw [h9] at h8
 omega
theorem own_base {w:World} {B B' sz n:Nat} {e:TypeId} {v:Value} {xs:List Value} (h:w.ownsRow B e sz v n xs) (hB:B'≤B):w.ownsRow B' e sz v n xs:=by
 refine ⟨h.1,?_⟩
 rcases h.2 with h1 |⟨g,cap,cur,e1,h2,h3⟩
 ·exact .inl h1
 ·exact .inr ⟨g,cap,cur,e1,Nat.le_trans hB h2,h3⟩
theorem idx_int3 (a b c:Int) (j:Nat) (hj:j < 3) (w:World):(Instr.index 30 (.agg #[.int .i64 a, .int .i64 b, .int .i64 c]) (.int .i64 j)).run Tryz.prog w= .ok (.int .i64 (if j=0 then a else if j=1 then b else c)) w:=by
 rcases (show j=0∨j=1∨j=2 by omega) with rfl | rfl | rfl <;> simp [Instr.index,run_underlying Tryz.underlying30,asIntOf,go_sem,part]
def renL (v:Vw) (ob:Int):List Ly→Nat→List Tone→Int→Except (Int × Int × Int × Int) (List Tone)
 | [],_,ts,_=> .ok ts
 | y :: l,k,ts,m=>match coverK k v m (fileV y.t.data.toList ob) with
  |⟨none,a,b,c,d,_⟩=> .error (a,b,c,d)
  |⟨some cv,_,_,_,_,m'⟩=>renL v ob l (k+1) (layAll y.r y.g y.b y.al (cellsV v) cv 0 ts) m'
def contRL (v:Vw) (ob:Int) (y:Ly) (l:List Ly) (k:Nat) (ts:List Tone):CvR→Except (Int × Int × Int × Int) (List Tone)
 |⟨none,a,b,c,d,_⟩=> .error (a,b,c,d)
 |⟨some cv,_,_,_,_,m'⟩=>renL v ob l (k+1) (layAll y.r y.g y.b y.al (cellsV v) cv 0 ts) m'
theorem renL_cons (v:Vw) (ob:Int) (y:Ly) (l:List Ly) (k:Nat) (ts:List Tone) (m:Int):renL v ob (y :: l) k ts m=contRL v ob y l k ts (coverK k v m (fileV y.t.data.toList ob)):=by
 unfold renL contRL
 split <;> rfl
def pixK (y0 y1 y2 al:Int) (cells:Int) (v:Cv) (i:Nat):Nat→List Tone→List Tone
 | 0,ts=>ts
 | n+1,ts=>(pixK y0 y1 y2 al cells v i n ts).set (3 *i+n) (overT ((pixK y0 y1 y2 al cells v i n ts).getD (3 *i+n) (0,0)) (if n=0 then y0 else if n=1 then y1 else y2) al v cells)
theorem pixK_len (y0 y1 y2 al:Int) (cells:Int) (v:Cv) (i:Nat) (ts:List Tone):∀n,(pixK y0 y1 y2 al cells v i n ts).length=ts.length
 | 0=>rfl
 | n+1=>by unfold pixK;rw [List.length_set,pixK_len]
theorem pixK_ok {y0 y1 y2 al cells:Int} {v:Cv} {i:Nat} {ts:List Tone} (h:okTs ts) (h0:0≤y0∧y0≤255) (h1:0≤y1∧y1≤255) (h2:0≤y2∧y2≤255) (ha:0≤al∧al≤255) (hv:CvIn cells v) (hc:1≤cells):∀n,okTs (pixK y0 y1 y2 al cells v i n ts)
 | 0=>h
 | n+1=>by
  unfold pixK
  have k:=pixK_ok (i:=i) h h0 h1 h2 ha hv hc n
  refine set_ok k _ (over_ok (getD_ok k _) ?_ ha hv hc)
  split
  ·exact h0
  ·split
   ·exact h1
   ·exact h2
theorem coverK_some {k:Int} {v:Vw} {m:Int} {f:List Ob × Nat × Nat} {cv:List Cv} {a b c d m':Int} (hm:0≤m) (h:coverK k v m f=⟨some cv,a,b,c,d,m'⟩):(∀c∈cv,CvIn (4 ^ v.depth.toNat) c)∧cv.length=v.h.toNat *v.w.toNat∧0≤m'∧m'≤m:=by
 obtain ⟨o,i,e⟩:=f
 unfold coverK at h
 simp only at h
 split at h
 ·simp at h
 ·split at h
  ·simp at h
  ·rename_i l m1 hr
   simp only [CvR.mk.injEq,Option.some.injEq] at h
   obtain ⟨rfl,_,_,_,_,rfl⟩:=h
   exact rastV_in hm hr
theorem coverK_none {k:Int} {v:Vw} {m:Int} {f:List Ob × Nat × Nat} {a b c d m':Int} (h:coverK k v m f=⟨none,a,b,c,d,m'⟩):d≠0:=by
 obtain ⟨o,i,e⟩:=f
 unfold coverK at h
 simp only at h
 split at h
 ·rename_i he
  simp only [CvR.mk.injEq] at h
  obtain ⟨_,_,_,_,rfl,_⟩:=h
  omega
 ·split at h
  ·simp only [CvR.mk.injEq] at h
   obtain ⟨_,_,_,_,rfl,_⟩:=h
   decide
  ·simp at h
def ReOut (w:World) (nw nh:Int) (T:Except (Int × Int × Int × Int) (List Tone)) (e:Ending) (w':World):Prop:=Below w.heap.size w w'∧match T with
 | .error (a,b,c,d)=>e= .returned (.tuple #[.agg #[.int .i64 0, .int .i64 0, .bool false, .slice none 0 0],ftV a b c d])
 | .ok ts=>∃q cp,e= .returned (.tuple #[.agg #[.int .i64 nw, .int .i64 nh, .bool true, .slice q ts.length cp],ftV 0 0 0 0])∧w'.ownsRow w.heap.size 5 1 (.slice q ts.length cp) ts.length (ts.map fun t=> .int .u8 (byteV t))
def LysOk (ob:Int) (ls:List Ly):Prop:=∀y∈ls,y.cu=false∧FileOk y.t ob∧∀x∈(fileV y.t.data.toList ob).1,Plain x.2∧Nice x.2
end Go.Proofs.YtfldplmgkeiimaaGreatDoor.VW
